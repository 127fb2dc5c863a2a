/- Part of the proofs of this seat: walks and plain facts. No condition. -/
import Derived.Test.YtopjaeoklkpcpaaGreatDoorP0
import Derived.Test.YtopjaeoklkpcpaaGreatDoorProg
import Derived.Test.YtopjaeoklkpcpaaGreatDoorP5
import Derived.Test.YtopjaeoklkpcpaaGreatDoorP2
import Derived.Test.YtopjaeoklkpcpaaGreatDoorP7
import Derived.Test.YtopjaeoklkpcpaaGreatDoorP1
import Derived.Test.YtopjaeoklkpcpaaGreatDoorP9
import Derived.Test.YtopjaeoklkpcpaaGreatDoorP6
import Derived.Test.YtopjaeoklkpcpaaGreatDoorP3
import Derived.Test.YtopjaeoklkpcpaaGreatDoorP11
import Derived.Test.YtopjaeoklkpcpaaGreatDoorP4
namespace Go.Proofs.YtopjaeoklkpcpaaGreatDoor.Jd
set_option linter.unusedVariables false
set_option linter.unusedSimpArgs false
section
variable {p q : Prop}
theorem Z93 (k : q) (h : Hid q → p := by intro z; refine Z481 ?_; refine JL_p (c_callA Tryz.call17) (fun w1 hw1 => gApply_ok w1 (r := (gCut r)) (role := 3) (c := (Command.mk 7 ((gCutC c).name) 0 0 ((gCutC c).rule) ([] : Str) 0 0)) (now := now) (h_r_slots_gens := (SlJ.take (SlJ.of_base h_r_slots_gens) _) w1 hw1) (n_r_slots_gens := by first | omega | (simp; done) | exact Nat.le_trans (by assumption) (by decide)) (h_r_slots_used := (SlJ.take (SlJ.of_base h_r_slots_used) _) w1 hw1) (n_r_slots_used := by first | omega | (simp; done) | exact Nat.le_trans (by assumption) (by decide)) (h_r_slots_free := (SlJ.take (SlJ.of_base h_r_slots_free) _) w1 hw1) (n_r_slots_free := by first | omega | (simp; done) | exact Nat.le_trans (by assumption) (by decide)) (h_r_l := (SlNB.j hs1_1.1 sh).2 w1 hw1) (n_r_l := by first | omega | (simp; done) | exact Nat.le_trans (by assumption) (by decide)) (k_r_l := hs1_1.2) (i_c_at_ := by first | exact i_c_at_ | (simp; done) | (exact ⟨by decide, by decide⟩) | omega) (hG := hG.ext hw1.ext_out) (hE := hE.ext hw1.ext_out) (hsm := by first | assumption | exact Small.nil)) (k := ?_); exact z.1) : p := h ⟨k⟩
theorem Z182 (k : q) (h : Hid q → p := by intro z; refine J_subL _ (sk (sa (sa (sk (sa (sa (sk (sd (sx (sk (sa (sa (sk sz))))))))))))) ?_; refine J_plan mixed 36 [(true, 0), (true, 1), (true, 2), (true, 3), (true, 4), (true, 5), (true, 6), (true, 7), (true, 8), (true, 9), (true, 10), (true, 11), (true, 12), (true, 13), (true, 14), (true, 15), (true, 16), (true, 17), (true, 18), (true, 19), (true, 20), (true, 21), (true, 22), (true, 23), (true, 24), (true, 25), (true, 26), (true, 27), (true, 28), (true, 29), (true, 30), (true, 31), (true, 32), (false, 33), (true, 34), (true, 35)] (by kernel_rfl) ?_; exact z.1) : p := h ⟨k⟩
theorem Z451 (k : q) (h : Hid q → p := by intro z; refine J_subL _ (sx (sd (sx (sx (sd (sk (sa (sa (sa (sk (sk sz))))))))))) ?_; refine Z270 ?_; exact z.1) : p := h ⟨k⟩
theorem Z470 (k : q) (h : Hid q → p := by intro z; refine JL_q (q_loadA Tryz.isAgg34 Tryz.sizeOf34) (k := ?_); refine Z531 ?_; exact z.1) : p := h ⟨k⟩
end
open Go.Proofs
open Go.RowKit (Below)
set_option maxRecDepth 100000
set_option maxHeartbeats 8000000
set_option linter.unusedVariables false
set_option linter.unusedSimpArgs false
theorem EQ_34 (x y : Operand) (a0 b0 : Bool) (a1 b1 : Int) (a2 b2 : Int) (a3 b3 : Int) (a4 b4 : Int) (w : World) : (do eqGuard .eql 34 x y (Value.agg [Value.bool a0, vi a1, vi a2, vi a3, vi a4].toArray) (Value.agg [Value.bool b0, vi b1, vi b2, vi b3, vi b4].toArray); binOp .eql 34 (Value.agg [Value.bool a0, vi a1, vi a2, vi a3, vi a4].toArray) (Value.agg [Value.bool b0, vi b1, vi b2, vi b3, vi b4].toArray) : Sem Value).run Tryz.prog w = .ok (.bool (decide (a0 = b0 ∧ a1 = b1 ∧ a2 = b2 ∧ a3 = b3 ∧ a4 = b4))) w := by
 have h2 : (binOp .eql 34 (Value.agg [Value.bool a0, vi a1, vi a2, vi a3, vi a4].toArray) (Value.agg [Value.bool b0, vi b1, vi b2, vi b3, vi b4].toArray)).run Tryz.prog w = .ok (.bool (decide (a0 = b0 ∧ a1 = b1 ∧ a2 = b2 ∧ a3 = b3 ∧ a4 = b4))) w := by
  show (do pure (.bool (← Op.equal 34 _ _)) : Sem Value).run Tryz.prog w = _
  simp only [Sem.run_bind, Op.equal, Op.maxDepth, EQH_34 a0 b0 a1 b1 a2 b2 a3 b3 a4 b4 9997, Result.andThen_ok, Sem.run_pure]
 simp [eqGuard]
 simpa using h2
end Go.Proofs.YtopjaeoklkpcpaaGreatDoor.Jd

namespace Go.Proofs.YtopjaeoklkpcpaaGreatDoor.Jd
open Go.Proofs
open Go.RowKit (Below)
set_option maxRecDepth 100000
set_option maxHeartbeats 8000000
set_option linter.unusedVariables false
set_option linter.unusedSimpArgs false
def lRegistryRotates (r : Registry) (c : Command) (now : Int) : Bool := (if 1000000 < (gCut r).seq then gShown else (if ((gApply (gCut r) 3 (Command.mk 6 ((gCutC c).name) 0 0 (Rule.mk false (Prefix.mk 0 0) (PortsT.mk 0 0)) ((gCutC c).key) ((gCutC c).n) ((gCutC c).m)) now).2.err) = 0 then (if ((((cHolding ((gFind ((gApply (gCut r) 3 (Command.mk 6 ((gCutC c).name) 0 0 (Rule.mk false (Prefix.mk 0 0) (PortsT.mk 0 0)) ((gCutC c).key) ((gCutC c).n) ((gCutC c).m)) now).1) ((gCutC c).name)).1.creds) now).length) : Nat) : Int) = 0 then false else (if (((cHolding ((gFind ((gApply (gCut r) 3 (Command.mk 6 ((gCutC c).name) 0 0 (Rule.mk false (Prefix.mk 0 0) (PortsT.mk 0 0)) ((gCutC c).key) ((gCutC c).n) ((gCutC c).m)) now).1) ((gCutC c).name)).1.creds) now).getD ((((((cHolding ((gFind ((gApply (gCut r) 3 (Command.mk 6 ((gCutC c).name) 0 0 (Rule.mk false (Prefix.mk 0 0) (PortsT.mk 0 0)) ((gCutC c).key) ((gCutC c).n) ((gCutC c).m)) now).1) ((gCutC c).name)).1.creds) now).length) : Nat) : Int) - 1).toNat) default).key) ≠ ((gCutC c).key) then false else (if ((gFind ((gApply (gCut r) 3 (Command.mk 6 ((gCutC c).name) 0 0 (Rule.mk false (Prefix.mk 0 0) (PortsT.mk 0 0)) ((gCutC c).key) ((gCutC c).n) ((gCutC c).m)) now).1) ((gCutC c).name)).1.version) ≠ (((gFind (gCut r) ((gCutC c).name)).1.version) + 1) then false else (if ((gApply (gCut r) 3 (Command.mk 7 ((gCutC c).name) 0 0 ((gCutC c).rule) ([] : Str) 0 0) now).2.err) ≠ 0 then gShown else (if gShown = true then (if ((gFind (gCut r) ((gCutC c).name)).2) = true then (if ((((gFind ((gApply (gCut r) 3 (Command.mk 7 ((gCutC c).name) 0 0 ((gCutC c).rule) ([] : Str) 0 0) now).1) ((gCutC c).name)).1.rules.length) : Nat) : Int) = (((((gFind (gCut r) ((gCutC c).name)).1.rules.length) : Nat) : Int) + 1) then (if ((((gFind ((gApply (gCut r) 3 (Command.mk 7 ((gCutC c).name) 0 0 ((gCutC c).rule) ([] : Str) 0 0) now).1) ((gCutC c).name)).1.rules).getD 0 default).allow) = ((gCutC c).rule.allow) ∧ ((((gFind ((gApply (gCut r) 3 (Command.mk 7 ((gCutC c).name) 0 0 ((gCutC c).rule) ([] : Str) 0 0) now).1) ((gCutC c).name)).1.rules).getD 0 default).pfx.addr) = ((gCutC c).rule.pfx.addr) ∧ ((((gFind ((gApply (gCut r) 3 (Command.mk 7 ((gCutC c).name) 0 0 ((gCutC c).rule) ([] : Str) 0 0) now).1) ((gCutC c).name)).1.rules).getD 0 default).pfx.bits) = ((gCutC c).rule.pfx.bits) ∧ ((((gFind ((gApply (gCut r) 3 (Command.mk 7 ((gCutC c).name) 0 0 ((gCutC c).rule) ([] : Str) 0 0) now).1) ((gCutC c).name)).1.rules).getD 0 default).prt.lo) = ((gCutC c).rule.prt.lo) ∧ ((((gFind ((gApply (gCut r) 3 (Command.mk 7 ((gCutC c).name) 0 0 ((gCutC c).rule) ([] : Str) 0 0) now).1) ((gCutC c).name)).1.rules).getD 0 default).prt.hi) = ((gCutC c).rule.prt.hi) then (if ((gApply ((gApply (gCut r) 3 (Command.mk 7 ((gCutC c).name) 0 0 ((gCutC c).rule) ([] : Str) 0 0) now).1) 3 (Command.mk 7 ((gCutC c).name) 0 (-1) (Rule.mk false (Prefix.mk 0 0) (PortsT.mk 0 0)) ([] : Str) 0 0) now).2.err) = 0 then (rlSame ((gFind ((gApply ((gApply (gCut r) 3 (Command.mk 7 ((gCutC c).name) 0 0 ((gCutC c).rule) ([] : Str) 0 0) now).1) 3 (Command.mk 7 ((gCutC c).name) 0 (-1) (Rule.mk false (Prefix.mk 0 0) (PortsT.mk 0 0)) ([] : Str) 0 0) now).1) ((gCutC c).name)).1.rules) ((gFind (gCut r) ((gCutC c).name)).1.rules)) else false) else false) else false) else false) else false))))) else (if ((gApply (gCut r) 3 (Command.mk 7 ((gCutC c).name) 0 0 ((gCutC c).rule) ([] : Str) 0 0) now).2.err) ≠ 0 then gShown else (if gShown = true then (if ((gFind (gCut r) ((gCutC c).name)).2) = true then (if ((((gFind ((gApply (gCut r) 3 (Command.mk 7 ((gCutC c).name) 0 0 ((gCutC c).rule) ([] : Str) 0 0) now).1) ((gCutC c).name)).1.rules.length) : Nat) : Int) = (((((gFind (gCut r) ((gCutC c).name)).1.rules.length) : Nat) : Int) + 1) then (if ((((gFind ((gApply (gCut r) 3 (Command.mk 7 ((gCutC c).name) 0 0 ((gCutC c).rule) ([] : Str) 0 0) now).1) ((gCutC c).name)).1.rules).getD 0 default).allow) = ((gCutC c).rule.allow) ∧ ((((gFind ((gApply (gCut r) 3 (Command.mk 7 ((gCutC c).name) 0 0 ((gCutC c).rule) ([] : Str) 0 0) now).1) ((gCutC c).name)).1.rules).getD 0 default).pfx.addr) = ((gCutC c).rule.pfx.addr) ∧ ((((gFind ((gApply (gCut r) 3 (Command.mk 7 ((gCutC c).name) 0 0 ((gCutC c).rule) ([] : Str) 0 0) now).1) ((gCutC c).name)).1.rules).getD 0 default).pfx.bits) = ((gCutC c).rule.pfx.bits) ∧ ((((gFind ((gApply (gCut r) 3 (Command.mk 7 ((gCutC c).name) 0 0 ((gCutC c).rule) ([] : Str) 0 0) now).1) ((gCutC c).name)).1.rules).getD 0 default).prt.lo) = ((gCutC c).rule.prt.lo) ∧ ((((gFind ((gApply (gCut r) 3 (Command.mk 7 ((gCutC c).name) 0 0 ((gCutC c).rule) ([] : Str) 0 0) now).1) ((gCutC c).name)).1.rules).getD 0 default).prt.hi) = ((gCutC c).rule.prt.hi) then (if ((gApply ((gApply (gCut r) 3 (Command.mk 7 ((gCutC c).name) 0 0 ((gCutC c).rule) ([] : Str) 0 0) now).1) 3 (Command.mk 7 ((gCutC c).name) 0 (-1) (Rule.mk false (Prefix.mk 0 0) (PortsT.mk 0 0)) ([] : Str) 0 0) now).2.err) = 0 then (rlSame ((gFind ((gApply ((gApply (gCut r) 3 (Command.mk 7 ((gCutC c).name) 0 0 ((gCutC c).rule) ([] : Str) 0 0) now).1) 3 (Command.mk 7 ((gCutC c).name) 0 (-1) (Rule.mk false (Prefix.mk 0 0) (PortsT.mk 0 0)) ([] : Str) 0 0) now).1) ((gCutC c).name)).1.rules) ((gFind (gCut r) ((gCutC c).name)).1.rules)) else false) else false) else false) else false) else false))))
end Go.Proofs.YtopjaeoklkpcpaaGreatDoor.Jd

namespace Go.Proofs.YtopjaeoklkpcpaaGreatDoor.Jd
set_option maxRecDepth 100000
set_option linter.unusedVariables false
set_option linter.unusedSimpArgs false
theorem chg_rotate {t : Tenant} {c : Command} {now : Int} (hv : c.verb = 6) : chg t c now = (Tenant.mk t.handle t.name t.state (t.version + 1) t.rules (cRot t.creds c.key now c.n c.m).1 t.deadline, (cRot t.creds c.key now c.n c.m).2.2) := by
  unfold chg
  rw [if_neg (by omega), if_neg (by omega), if_neg (by omega), if_pos hv]
theorem chg_insert {t : Tenant} {c : Command} {now : Int} (hv : c.verb = 7) (ha : 0 ≤ c.at_) : chg t c now = (Tenant.mk t.handle t.name t.state (t.version + 1) (aclInsert t.rules c.at_ c.rule).1 t.creds t.deadline, (aclInsert t.rules c.at_ c.rule).2) := by
  unfold chg
  rw [if_neg (by omega), if_neg (by omega), if_neg (by omega), if_neg (by omega), if_pos ha]
theorem chg_remove {t : Tenant} {c : Command} {now : Int} (hv : c.verb = 7) (ha : ¬ 0 ≤ c.at_) : chg t c now = (Tenant.mk t.handle t.name t.state (t.version + 1) (aclRemove t.rules (IntKind.wrap .i64 (0 - (c.at_ + 1)))).1 t.creds t.deadline, (aclRemove t.rules (IntKind.wrap .i64 (0 - (c.at_ + 1)))).2) := by
  unfold chg
  rw [if_neg (by omega), if_neg (by omega), if_neg (by omega), if_neg (by omega), if_neg ha]
theorem rotates_tail (s : Registry) (d : Command) (now : Int) (hq : ¬ 1000000 < s.seq) : (if (gApply s 3 (Command.mk 7 d.name 0 0 d.rule ([] : Str) 0 0) now).2.err ≠ 0 then true else (if (gFind s d.name).2 = true then (if ((((gFind (gApply s 3 (Command.mk 7 d.name 0 0 d.rule ([] : Str) 0 0) now).1 d.name).1.rules.length) : Nat) : Int) = ((((gFind s d.name).1.rules.length) : Nat) : Int) + 1 then (if ((gFind (gApply s 3 (Command.mk 7 d.name 0 0 d.rule ([] : Str) 0 0) now).1 d.name).1.rules.getD 0 default).allow = d.rule.allow ∧ ((gFind (gApply s 3 (Command.mk 7 d.name 0 0 d.rule ([] : Str) 0 0) now).1 d.name).1.rules.getD 0 default).pfx.addr = d.rule.pfx.addr ∧ ((gFind (gApply s 3 (Command.mk 7 d.name 0 0 d.rule ([] : Str) 0 0) now).1 d.name).1.rules.getD 0 default).pfx.bits = d.rule.pfx.bits ∧ ((gFind (gApply s 3 (Command.mk 7 d.name 0 0 d.rule ([] : Str) 0 0) now).1 d.name).1.rules.getD 0 default).prt.lo = d.rule.prt.lo ∧ ((gFind (gApply s 3 (Command.mk 7 d.name 0 0 d.rule ([] : Str) 0 0) now).1 d.name).1.rules.getD 0 default).prt.hi = d.rule.prt.hi then (if (gApply (gApply s 3 (Command.mk 7 d.name 0 0 d.rule ([] : Str) 0 0) now).1 3 (Command.mk 7 d.name 0 (-1) (Rule.mk false (Prefix.mk 0 0) (PortsT.mk 0 0)) ([] : Str) 0 0) now).2.err = 0 then (rlSame (gFind (gApply (gApply s 3 (Command.mk 7 d.name 0 0 d.rule ([] : Str) 0 0) now).1 3 (Command.mk 7 d.name 0 (-1) (Rule.mk false (Prefix.mk 0 0) (PortsT.mk 0 0)) ([] : Str) 0 0) now).1 d.name).1.rules (gFind s d.name).1.rules) else false) else false) else false) else false)) = true := by
  generalize d.name = nm
  generalize d.rule = ru
  have h := apply_out s 3 (Command.mk 7 nm 0 0 ru ([] : Str) 0 0) now
  generalize gApply s 3 (Command.mk 7 nm 0 0 ru ([] : Str) 0 0) now = x at h ⊢
  by_cases he : x.2.err = 0
  rotate_left
  · rw [if_pos he]
  rw [if_neg (by simpa using he)]
  obtain ⟨i, hf, hi, hn, hc, hs, rfl⟩ := h.putOf he (.inr (.inr (.inr (.inr rfl))))
  rw [chg_insert rfl (by simp)] at hc hs
  simp only [chg_insert (c := Command.mk 7 nm 0 0 ru ([] : Str) 0 0) rfl (by simp)] at hc hs ⊢
  generalize ht : s.l.getD i default = t at *
  simp only at hn
  have hfd : gFind s nm = (t, true) := by rw [← hn]; exact find_some hf.right.names (ht ▸ getD_mem' hi)
  rcases insert_cases t.rules 0 ru with ⟨h1, _⟩ | ⟨_, _, _, _, _, h1, _⟩
  · exact absurd hc h1
  rw [h1] at hs ⊢
  simp only at hs ⊢
  generalize hu : Tenant.mk t.handle t.name t.state (t.version + 1) (insL t.rules (0 : Int).toNat ru) t.creds t.deadline = u at *
  have hu1 : u.name = nm := by rw [← hu]; exact hn
  have hu2 : u.rules = ru :: t.rules := by rw [← hu]; simp [insL]
  have hfd2 := find_set (r := s) (s := ⟨s.slots, s.l.set i u, s.seq + 1⟩) hs hi rfl
  rw [hu1] at hfd2
  rw [hfd, hfd2]
  simp only [hu2, if_true, List.length_cons]
  rw [if_pos (by omega), if_pos (by simp)]
  have fs : Fit ⟨s.slots, s.l.set i u, s.seq + 1⟩ now := ⟨hs, by simp only; omega, hf.nn⟩
  have hi2 : i < (s.l.set i u).length := by simpa using hi
  have hg : (s.l.set i u).getD i default = u := getD_set' hi u
  have a := apply_at (c := Command.mk 7 nm 0 (-1) (Rule.mk false (Prefix.mk 0 0) (PortsT.mk 0 0)) ([] : Str) 0 0) fs (may3 (by simp)) (by simp) (by simp) hi2 (by rw [hg]; exact hu1) (.inl rfl)
  have o := apply_out ⟨s.slots, s.l.set i u, s.seq + 1⟩ 3 (Command.mk 7 nm 0 (-1) (Rule.mk false (Prefix.mk 0 0) (PortsT.mk 0 0)) ([] : Str) 0 0) now
  have hur : TenOk (s.seq + 1) u := hs.ok u (mem_set_self hi u)
  have hw : IntKind.wrap .i64 (0 - (-1 + 1)) = 0 := by decide
  have hrem : aclRemove u.rules 0 = (t.rules, 0) := by
    rcases remove_cases u.rules 0 with ⟨h3, _⟩ | ⟨_, _, _, h3, _⟩
    · exfalso
      apply h3
      unfold aclRemove
      rw [hur.rules, if_neg (by simp), if_neg (by omega), if_neg (by rw [hu2]; simp only [List.length_cons]; omega)]
    · rw [h3, hu2]; rfl
  have ee : (chg u (Command.mk 7 nm 0 (-1) (Rule.mk false (Prefix.mk 0 0) (PortsT.mk 0 0)) ([] : Str) 0 0) now).2 = 0 := by
    rw [chg_remove rfl (by simp)]
    simp only [hw, hrem]
  have er : (chg u (Command.mk 7 nm 0 (-1) (Rule.mk false (Prefix.mk 0 0) (PortsT.mk 0 0)) ([] : Str) 0 0) now).1.rules = t.rules := by
    rw [chg_remove rfl (by simp)]
    simp only [hw, hrem]
  simp only [hg] at a
  generalize hy : gApply ⟨s.slots, s.l.set i u, s.seq + 1⟩ 3 (Command.mk 7 nm 0 (-1) (Rule.mk false (Prefix.mk 0 0) (PortsT.mk 0 0)) ([] : Str) 0 0) now = y at o a ⊢
  have ey : y.2.err = 0 := by rw [a]; unfold changeD; rw [if_neg (by simp), if_neg (by simp), if_neg (by simpa using ee)]
  obtain ⟨j, _, hj, hjn, _, hjs, rfl⟩ := o.putOf ey (.inr (.inr (.inr (.inr rfl))))
  simp only at hj hjn hjs ⊢
  have hji : j = i := names_ix hs.names hj hi2 (by rw [hg, hu1]; exact hjn)
  subst hji
  rw [hg] at hjs ⊢
  generalize hv : (chg u (Command.mk 7 nm 0 (-1) (Rule.mk false (Prefix.mk 0 0) (PortsT.mk 0 0)) ([] : Str) 0 0) now).1 = v at *
  have hv1 : v.name = nm := by rw [← hv, (chg_name _ _ _).1]; exact hu1
  have hfind2 := find_set (r := ⟨s.slots, s.l.set j u, s.seq + 1⟩) (s := ⟨s.slots, (s.l.set j u).set j v, s.seq + 1 + 1⟩) hjs hj rfl
  rw [hv1] at hfind2
  rw [hfind2]
  simp only [er, if_true]
  exact (rlSame_iff _ _).2 rfl
theorem lRegistryRotates_true (r : Registry) (c : Command) (now : Int) : lRegistryRotates r c now = true := by
  unfold lRegistryRotates
  simp only [gShown_true, if_true]
  generalize gCut r = s
  generalize gCutC c = d
  by_cases hq : 1000000 < s.seq
  · rw [if_pos hq]
  rw [if_neg hq]
  have tail := rotates_tail s d now hq
  have h := apply_out s 3 (Command.mk 6 d.name 0 0 (Rule.mk false (Prefix.mk 0 0) (PortsT.mk 0 0)) d.key d.n d.m) now
  generalize gApply s 3 (Command.mk 6 d.name 0 0 (Rule.mk false (Prefix.mk 0 0) (PortsT.mk 0 0)) d.key d.n d.m) now = x at h ⊢
  by_cases he : x.2.err = 0
  rotate_left
  · rw [if_neg he]; exact tail
  rw [if_pos he]
  obtain ⟨i, hf, hi, hn, hc, hs, rfl⟩ := h.putOf he (.inr (.inr (.inr (.inl rfl))))
  have hk := chg_rotate (t := s.l.getD i default) (c := Command.mk 6 d.name 0 0 (Rule.mk false (Prefix.mk 0 0) (PortsT.mk 0 0)) d.key d.n d.m) (now := now) rfl
  rw [hk] at hc hs
  simp only [hk] at hc hs ⊢
  generalize ht : s.l.getD i default = t at *
  simp only at hn
  have hfd : gFind s d.name = (t, true) := by rw [← hn]; exact find_some hf.right.names (ht ▸ getD_mem' hi)
  generalize hu : Tenant.mk t.handle t.name t.state (t.version + 1) t.rules (cRot t.creds d.key now d.n d.m).1 t.deadline = u at *
  have hu1 : u.name = d.name := by rw [← hu]; exact hn
  have hu2 : u.creds = (cRot t.creds d.key now d.n d.m).1 := by rw [← hu]
  have hu3 : u.version = t.version + 1 := by rw [← hu]
  have hfd2 := find_set (r := s) (s := ⟨s.slots, s.l.set i u, s.seq + 1⟩) hs hi rfl
  rw [hu1] at hfd2
  rw [hfd2]
  simp only [hu2, hold_last hc, List.length_append, List.length_cons, List.length_nil]
  rw [if_neg (by omega)]
  have e1 : ∀ (a : List Cred) (b : Cred), (a ++ [b]).getD ((((a.length + (0 + 1) : Nat) : Int)) - 1).toNat default = b := fun a b => by
    have : ((((a.length + (0 + 1) : Nat) : Int)) - 1).toNat = a.length := by omega
    rw [this]; simp
  rw [e1]
  simp only [ne_eq, not_true_eq_false, if_false]
  rw [hfd] at tail ⊢
  rw [if_neg (by simpa using hu3)]
  exact tail
end Go.Proofs.YtopjaeoklkpcpaaGreatDoor.Jd

namespace Go.Proofs.YtopjaeoklkpcpaaGreatDoor.Jd
open Go.Proofs
open Go.RowKit (Below)
set_option maxRecDepth 100000
set_option maxHeartbeats 8000000
set_option linter.unusedVariables false
set_option linter.unusedSimpArgs false
theorem lRegistryRotates_ok (w : World) {r_slots_gens_a : Option Addr} {r_slots_gens_c : Nat} {r_slots_used_a : Option Addr} {r_slots_used_c : Nat} {r_slots_free_a : Option Addr} {r_slots_free_c : Nat} {r_l_a : Option Addr} {r_l_c : Nat} {r_l_t : List TA} {ea0 : Addr} {ea1 : Addr} {ea2 : Addr} {ea3 : Addr} {r : Registry} {c : Command} {now : Int} (h_r_slots_gens : Sl w eI 1 r_slots_gens_a r.slots.gens) (k_r_slots_gens : r.slots.gens.length ≤ r_slots_gens_c) (h_r_slots_used : Sl w eB 1 r_slots_used_a r.slots.used) (k_r_slots_used : r.slots.used.length ≤ r_slots_used_c) (h_r_slots_free : Sl w eI 1 r_slots_free_a r.slots.free) (k_r_slots_free : r.slots.free.length ≤ r_slots_free_c) (h_r_l : SlN w eTenant 8 DT r_l_a r.l r_l_t) (k_r_l : r.l.length ≤ r_l_c) (i_c_at_ : -9223372036854775808 ≤ c.at_ ∧ c.at_ ≤ 9223372036854775807) (hG : Gl w) (hE : Er w ea0 ea1 ea2 ea3) : Val Tryz.prog 8 [(Value.agg [(vs r_slots_gens_a r.slots.gens.length r_slots_gens_c), (vs r_slots_used_a r.slots.used.length r_slots_used_c), (vs r_slots_free_a r.slots.free.length r_slots_free_c), (vs r_l_a r.l.length r_l_c), (vi r.seq)].toArray), (Value.agg [(vi c.verb), (vt c.name), (vi c.want), (vi c.at_), (Value.bool c.rule.allow), (vi c.rule.pfx.addr), (vi c.rule.pfx.bits), (vi c.rule.prt.lo), (vi c.rule.prt.hi), (vt c.key), (vi c.n), (vi c.m)].toArray), (vi now)] w (Value.bool (lRegistryRotates r c now)) := by
 have hF := Is.refl (lRegistryRotates r c now)
 refine enter Tryz.func8 Tryz.ntmps8 (h := ?_)
 refine Z2 ?_
 refine JL_a noMk (a_box (l := [_, _, _, _, _])) (k := fun r1 hr1 => ?_)
 refine JL_a noMk (a_box (l := [_, _, _, _, _, _, _, _, _, _, _, _])) (k := fun r2 hr2 => ?_)
 refine Z96 ?_
 refine Z1 ?_
 refine Z24 ?_
 rintro w1_1 e1_1 w2_1 hw1_1 ⟨a1_1, c1_1, t1_1, B_1, he_1, hf_1, hs1_1, hl1_1⟩
 refine ⟨_, _, he_1, hw1_1.fresh hf_1, ?_⟩
 have hcb_1 := gCut_bd r
 have hsm_1 := gCut_small r
 refine Z133 ?_
 refine Z225 ?_
 refine Z109 ?_
 refine Z72 ?_
 refine Z2 ?_
 refine Z94 ?_
 refine JL_q q_gtr (k := ?_)
 refine Z0 ?_
 refine J_dec rfl (fun hq1 => ?_) (fun hq1 => ?_)
 ·refine J_seq ?_
  refine Z376 ?_
  refine JX_ret Tryz.results8 (Res.tmp rfl Res.nil) (fun w1 hw1 => ?_)
  exact ⟨(by rw [(hF.pos hq1).eq] <;> first | rfl | (simp only [List.length_set] <;> rfl)), hw1.ext_out⟩
 refine Z14 ?_
 refine Z21 ?_
 refine JL_q (q_fld FO_36_1) (k := ?_)
 refine Z34 ?_
 rintro w1_2 e1_2 w2_2 hw1_2 ⟨a1_2, c1_2, a2_2, c2_2, B1_2, B2_2, he_2, hf_2, ho1_2, ho2_2, hl1_2, hl2_2⟩
 refine ⟨_, _, he_2, (hw1_2.fresh hf_2).perm (eqp (nA rfl)), ?_⟩
 have hfv_45306 := gFind_ver (gCut r) ((gCutC c).name)
 refine Z37 ?_
 refine JL_a noMk (a_alloc (l := [_, _, _, _, _, _, _, _]) Tryz.zeroValue52) (k := fun r3 hr3 => ?_)
 refine Z346 ?_
 refine Z21 ?_
 refine Z84 ?_
 refine Z383 ?_
 refine JL_q (q_fld FO_36_6) (k := ?_)
 refine Z499 ?_
 refine JL_q (q_fld FO_36_7) (k := ?_)
 refine Z499 ?_
 refine Z148 ?_
 refine JL_p (c_callA Tryz.call17) (fun w1 hw1 => gApply_ok w1 (r := (gCut r)) (role := 3) (c := (Command.mk 6 ((gCutC c).name) 0 0 (Rule.mk false (Prefix.mk 0 0) (PortsT.mk 0 0)) ((gCutC c).key) ((gCutC c).n) ((gCutC c).m))) (now := now) (h_r_slots_gens := (SlJ.take (SlJ.of_base h_r_slots_gens) _) w1 hw1) (n_r_slots_gens := by first | omega | (simp; done) | exact Nat.le_trans (by assumption) (by decide)) (h_r_slots_used := (SlJ.take (SlJ.of_base h_r_slots_used) _) w1 hw1) (n_r_slots_used := by first | omega | (simp; done) | exact Nat.le_trans (by assumption) (by decide)) (h_r_slots_free := (SlJ.take (SlJ.of_base h_r_slots_free) _) w1 hw1) (n_r_slots_free := by first | omega | (simp; done) | exact Nat.le_trans (by assumption) (by decide)) (h_r_l := (SlNB.j hs1_1.1 sh).2 w1 hw1) (n_r_l := by first | omega | (simp; done) | exact Nat.le_trans (by assumption) (by decide)) (k_r_l := hs1_1.2) (i_c_at_ := by first | exact i_c_at_ | (simp; done) | (exact ⟨by decide, by decide⟩) | omega) (hG := hG.ext hw1.ext_out) (hE := hE.ext hw1.ext_out) (hsm := by first | assumption | exact Small.nil)) (k := ?_)
 rintro w1_3 e1_3 w2_3 hw1_3 ⟨a1_3, c1_3, a2_3, c2_3, a3_3, c3_3, a4_3, c4_3, t4_3, B_3, he_3, hf_3, hs1_3, hs2_3, hs3_3, hs4_3, hl1_3, hl2_3, hl3_3, hl4_3⟩
 refine ⟨_, _, he_3, hw1_3.fresh hf_3, ?_⟩
 have hap_44701 := gApply_small 3 (Command.mk 6 ((gCutC c).name) 0 0 (Rule.mk false (Prefix.mk 0 0) (PortsT.mk 0 0)) ((gCutC c).key) ((gCutC c).n) ((gCutC c).m)) now (by first | assumption | exact Small.nil : Small ((gCut r).l))
 have hab_44701 := gApply_bd (gCut r) 3 (Command.mk 6 ((gCutC c).name) 0 0 (Rule.mk false (Prefix.mk 0 0) (PortsT.mk 0 0)) ((gCutC c).key) ((gCutC c).n) ((gCutC c).m)) now
 try dsimp only at hab_44701
 refine Z37 ?_
 refine JL_a noMk (a_alloc (l := [_, _, _, _, _]) Tryz.zeroValue28) (k := fun r4 hr4 => ?_)
 refine JL_a noMk (a_alloc (l := [_, _, _, _, _, _]) Tryz.zeroValue44) (k := fun r5 hr5 => ?_)
 refine Z19 ?_
 refine Z392 ?_
 refine Z84 ?_
 refine JL_p (c_callA Tryz.call20) (fun w1 hw1 => gFind_ok w1 (r := ((gApply (gCut r) 3 (Command.mk 6 ((gCutC c).name) 0 0 (Rule.mk false (Prefix.mk 0 0) (PortsT.mk 0 0)) ((gCutC c).key) ((gCutC c).n) ((gCutC c).m)) now).1)) (name := ((gCutC c).name)) (h_r_slots_gens := (SlB.slj hs1_3) w1 hw1) (n_r_slots_gens := by first | omega | (simp; done) | exact Nat.le_trans (by assumption) (by decide)) (h_r_slots_used := (SlB.slj hs2_3) w1 hw1) (n_r_slots_used := by first | omega | (simp; done) | exact Nat.le_trans (by assumption) (by decide)) (h_r_slots_free := (SlB.slj hs3_3) w1 hw1) (n_r_slots_free := by first | omega | (simp; done) | exact Nat.le_trans (by assumption) (by decide)) (h_r_l := (SlNB.j hs4_3.1 sh).2 w1 hw1) (n_r_l := by first | omega | (simp; done) | exact Nat.le_trans (by assumption) (by decide)) (k_r_l := hs4_3.2) (hsm := by first | assumption | exact Small.nil)) (k := ?_)
 rintro w1_4 e1_4 w2_4 hw1_4 ⟨a1_4, c1_4, a2_4, c2_4, B1_4, B2_4, he_4, hf_4, ho1_4, ho2_4, hl1_4, hl2_4⟩
 refine ⟨_, _, he_4, (hw1_4.fresh hf_4).perm (eqp (nA rfl)), ?_⟩
 have hfv_83791 := gFind_ver ((gApply (gCut r) 3 (Command.mk 6 ((gCutC c).name) 0 0 (Rule.mk false (Prefix.mk 0 0) (PortsT.mk 0 0)) ((gCutC c).key) ((gCutC c).n) ((gCutC c).m)) now).1) ((gCutC c).name)
 refine Z37 ?_
 refine JL_a noMk (a_alloc (l := [_, _, _, _, _, _, _, _]) Tryz.zeroValue52) (k := fun r6 hr6 => ?_)
 refine Z122 ?_
 refine J_subL _ (sk (sa (sa (sk (sd (sx (sk (sa (sa (sa (sk (sk sz)))))))))))) ?_
 refine Z486 ?_
 refine JL_q (q_fld FO_52_5) (k := ?_)
 refine Z523 ?_
 refine Z481 ?_
 refine JL_p (c_callA Tryz.call24) (fun w1 hw1 => cHolding_ok w1 (l := ((gFind ((gApply (gCut r) 3 (Command.mk 6 ((gCutC c).name) 0 0 (Rule.mk false (Prefix.mk 0 0) (PortsT.mk 0 0)) ((gCutC c).key) ((gCutC c).n) ((gCutC c).m)) now).1) ((gCutC c).name)).1.creds)) (now := now) (h_l := (ho2_4.slj eCred_ok) w1 hw1) (n_l := by first | omega | (simp; done) | exact Nat.le_trans (by assumption) (by decide))) (k := ?_)
 rintro w1_5 e1_5 w2_5 hw1_5 ⟨a1_5, c1_5, B1_5, he_5, hf_5, ho1_5, hl1_5⟩
 refine ⟨_, _, he_5, hw1_5.fresh hf_5, ?_⟩
 refine Z31 ?_
 refine J_seq ?_
 refine J_plan mixed 28 [(true, 0), (true, 1), (true, 2), (true, 3), (true, 4), (true, 5), (true, 6), (true, 7), (true, 8), (true, 9), (true, 10), (true, 11), (true, 12), (true, 13), (true, 14), (true, 15), (true, 16), (true, 17), (true, 18), (true, 19), (true, 20), (true, 21), (true, 22), (true, 23), (true, 24), (true, 25), (true, 26), (true, 27)] (by kernel_rfl) ?_
 refine JD_q (q_fld FO_44_0) (k := ?_)
 refine JD_q (q_load Tryz.isAgg40) (k := ?_)
 refine JD_q q_eql (k := ?_)
 refine Z483 ?_
 refine JD_dec 68 rfl (fun hq2 => ?_) (fun hq2 => ?_)
 rotate_left
 ·refine JD_skips 23 rfl ?_
  refine Z166 ?_
  refine Z49 ?_
  refine Z167 ?_
  refine J_subL _ (sx (sd (sx (sx (sd (sk (sa (sa (sa (sk (sk sz))))))))))) ?_
  refine Z50 ?_
  refine Z84 ?_
  refine JL_q (q_fld FO_36_4) (k := ?_)
  refine Z470 ?_
  refine Z93 ?_
  rintro w1_10 e1_10 w2_10 hw1_10 ⟨a1_10, c1_10, a2_10, c2_10, a3_10, c3_10, a4_10, c4_10, t4_10, B_10, he_10, hf_10, hs1_10, hs2_10, hs3_10, hs4_10, hl1_10, hl2_10, hl3_10, hl4_10⟩
  refine ⟨_, _, he_10, hw1_10.fresh hf_10, ?_⟩
  have hap_92188 := gApply_small 3 (Command.mk 7 ((gCutC c).name) 0 0 ((gCutC c).rule) ([] : Str) 0 0) now (by first | assumption | exact Small.nil : Small ((gCut r).l))
  have hab_92188 := gApply_bd (gCut r) 3 (Command.mk 7 ((gCutC c).name) 0 0 ((gCutC c).rule) ([] : Str) 0 0) now
  try dsimp only at hab_92188
  refine Z37 ?_
  refine JL_a noMk (a_alloc (l := [_, _, _, _, _]) Tryz.zeroValue28) (k := fun r13 hr13 => ?_)
  refine JL_a noMk (a_alloc (l := [_, _, _, _, _, _]) Tryz.zeroValue44) (k := fun r14 hr14 => ?_)
  refine Z455 ?_
  refine J_subL _ (sk (sk (sa (sk (sa (sa (sx (sk (sd sz))))))))) ?_
  refine Z425 ?_
  refine Z190 ?_
  refine J_dec rfl (fun hq12 => ?_) (fun hq12 => ?_)
  ·refine J_seq ?_
   refine Z535 ?_
   refine Z376 ?_
   refine JX_ret Tryz.results8 (Res.tmp rfl Res.nil) (fun w1 hw1 => ?_)
   exact ⟨(by rw [(((hF.neg hq1).neg hq2).pos hq12).eq] <;> first | rfl | (simp only [List.length_set] <;> rfl)), hw1.ext_out⟩
  refine Z167 ?_
  refine Z535 ?_
  refine Z50 ?_
  refine Z84 ?_
  refine Z148 ?_
  refine JL_p (c_callA Tryz.call17) (fun w1 hw1 => gApply_ok w1 (r := ((gApply (gCut r) 3 (Command.mk 7 ((gCutC c).name) 0 0 ((gCutC c).rule) ([] : Str) 0 0) now).1)) (role := 3) (c := (Command.mk 7 ((gCutC c).name) 0 (-1) (Rule.mk false (Prefix.mk 0 0) (PortsT.mk 0 0)) ([] : Str) 0 0)) (now := now) (h_r_slots_gens := (SlB.slj hs1_10) w1 hw1) (n_r_slots_gens := by first | omega | (simp; done) | exact Nat.le_trans (by assumption) (by decide)) (h_r_slots_used := (SlB.slj hs2_10) w1 hw1) (n_r_slots_used := by first | omega | (simp; done) | exact Nat.le_trans (by assumption) (by decide)) (h_r_slots_free := (SlB.slj hs3_10) w1 hw1) (n_r_slots_free := by first | omega | (simp; done) | exact Nat.le_trans (by assumption) (by decide)) (h_r_l := (SlNB.j hs4_10.1 sh).2 w1 hw1) (n_r_l := by first | omega | (simp; done) | exact Nat.le_trans (by assumption) (by decide)) (k_r_l := hs4_10.2) (i_c_at_ := by first | exact i_c_at_ | (simp; done) | (exact ⟨by decide, by decide⟩) | omega) (hG := hG.ext hw1.ext_out) (hE := hE.ext hw1.ext_out) (hsm := by first | assumption | exact Small.nil)) (k := ?_)
  rintro w1_11 e1_11 w2_11 hw1_11 ⟨a1_11, c1_11, a2_11, c2_11, a3_11, c3_11, a4_11, c4_11, t4_11, B_11, he_11, hf_11, hs1_11, hs2_11, hs3_11, hs4_11, hl1_11, hl2_11, hl3_11, hl4_11⟩
  refine ⟨_, _, he_11, hw1_11.fresh hf_11, ?_⟩
  have hap_72396 := gApply_small 3 (Command.mk 7 ((gCutC c).name) 0 (-1) (Rule.mk false (Prefix.mk 0 0) (PortsT.mk 0 0)) ([] : Str) 0 0) now (by first | assumption | exact Small.nil : Small ((gApply (gCut r) 3 (Command.mk 7 ((gCutC c).name) 0 0 ((gCutC c).rule) ([] : Str) 0 0) now).1.l))
  have hab_72396 := gApply_bd ((gApply (gCut r) 3 (Command.mk 7 ((gCutC c).name) 0 0 ((gCutC c).rule) ([] : Str) 0 0) now).1) 3 (Command.mk 7 ((gCutC c).name) 0 (-1) (Rule.mk false (Prefix.mk 0 0) (PortsT.mk 0 0)) ([] : Str) 0 0) now
  try dsimp only at hab_72396
  refine Z37 ?_
  refine JL_a noMk (a_alloc (l := [_, _, _, _, _]) Tryz.zeroValue28) (k := fun r15 hr15 => ?_)
  refine JL_a noMk (a_alloc (l := [_, _, _, _, _, _]) Tryz.zeroValue44) (k := fun r16 hr16 => ?_)
  refine Z19 ?_
  refine Z392 ?_
  refine Z84 ?_
  refine JL_p (c_callA Tryz.call20) (fun w1 hw1 => gFind_ok w1 (r := ((gApply (gCut r) 3 (Command.mk 7 ((gCutC c).name) 0 0 ((gCutC c).rule) ([] : Str) 0 0) now).1)) (name := ((gCutC c).name)) (h_r_slots_gens := (SlB.slj hs1_10) w1 hw1) (n_r_slots_gens := by first | omega | (simp; done) | exact Nat.le_trans (by assumption) (by decide)) (h_r_slots_used := (SlB.slj hs2_10) w1 hw1) (n_r_slots_used := by first | omega | (simp; done) | exact Nat.le_trans (by assumption) (by decide)) (h_r_slots_free := (SlB.slj hs3_10) w1 hw1) (n_r_slots_free := by first | omega | (simp; done) | exact Nat.le_trans (by assumption) (by decide)) (h_r_l := (SlNB.j hs4_10.1 sh).2 w1 hw1) (n_r_l := by first | omega | (simp; done) | exact Nat.le_trans (by assumption) (by decide)) (k_r_l := hs4_10.2) (hsm := by first | assumption | exact Small.nil)) (k := ?_)
  rintro w1_12 e1_12 w2_12 hw1_12 ⟨a1_12, c1_12, a2_12, c2_12, B1_12, B2_12, he_12, hf_12, ho1_12, ho2_12, hl1_12, hl2_12⟩
  refine ⟨_, _, he_12, (hw1_12.fresh hf_12).perm (eqp (nA rfl)), ?_⟩
  have hfv_41194 := gFind_ver ((gApply (gCut r) 3 (Command.mk 7 ((gCutC c).name) 0 0 ((gCutC c).rule) ([] : Str) 0 0) now).1) ((gCutC c).name)
  refine Z37 ?_
  refine JL_a noMk (a_alloc (l := [_, _, _, _, _, _, _, _]) Tryz.zeroValue52) (k := fun r17 hr17 => ?_)
  refine Z122 ?_
  refine J_subL _ (sk (sa (sa (sk (sk (sa (sd (sx (sk (sa (sa (sk sz)))))))))))) ?_
  refine Z50 ?_
  refine Z84 ?_
  refine JL_p (c_callA Tryz.call20) (fun w1 hw1 => gFind_ok w1 (r := ((gApply ((gApply (gCut r) 3 (Command.mk 7 ((gCutC c).name) 0 0 ((gCutC c).rule) ([] : Str) 0 0) now).1) 3 (Command.mk 7 ((gCutC c).name) 0 (-1) (Rule.mk false (Prefix.mk 0 0) (PortsT.mk 0 0)) ([] : Str) 0 0) now).1)) (name := ((gCutC c).name)) (h_r_slots_gens := (SlB.slj hs1_11) w1 hw1) (n_r_slots_gens := by first | omega | (simp; done) | exact Nat.le_trans (by assumption) (by decide)) (h_r_slots_used := (SlB.slj hs2_11) w1 hw1) (n_r_slots_used := by first | omega | (simp; done) | exact Nat.le_trans (by assumption) (by decide)) (h_r_slots_free := (SlB.slj hs3_11) w1 hw1) (n_r_slots_free := by first | omega | (simp; done) | exact Nat.le_trans (by assumption) (by decide)) (h_r_l := (SlNB.j hs4_11.1 sh).2 w1 hw1) (n_r_l := by first | omega | (simp; done) | exact Nat.le_trans (by assumption) (by decide)) (k_r_l := hs4_11.2) (hsm := by first | assumption | exact Small.nil)) (k := ?_)
  rintro w1_13 e1_13 w2_13 hw1_13 ⟨a1_13, c1_13, a2_13, c2_13, B1_13, B2_13, he_13, hf_13, ho1_13, ho2_13, hl1_13, hl2_13⟩
  refine ⟨_, _, he_13, (hw1_13.fresh hf_13).perm (eqp (nA rfl)), ?_⟩
  have hfv_23833 := gFind_ver ((gApply ((gApply (gCut r) 3 (Command.mk 7 ((gCutC c).name) 0 0 ((gCutC c).rule) ([] : Str) 0 0) now).1) 3 (Command.mk 7 ((gCutC c).name) 0 (-1) (Rule.mk false (Prefix.mk 0 0) (PortsT.mk 0 0)) ([] : Str) 0 0) now).1) ((gCutC c).name)
  refine Z37 ?_
  refine JL_a noMk (a_alloc (l := [_, _, _, _, _, _, _, _]) Tryz.zeroValue52) (k := fun r18 hr18 => ?_)
  refine Z122 ?_
  refine Z182 ?_
  refine Z62 ?_
  refine JD_bool 132 rfl (fun hq13 => ?_) (fun hq13 => ?_)
  rotate_left
  ·refine JD_skip (k := ?_)
   refine Z23 ?_
   refine JD_skips 8 rfl ?_
   refine Z325 ?_
   refine Z184 ?_
   refine Z437 ?_
   refine JX_ret Tryz.results8 (Res.tmp rfl Res.nil) (fun w1 hw1 => ?_)
   exact ⟨(by rw [((((hF.neg hq1).neg hq2).neg hq12).f hq13).eq] <;> first | rfl | (simp only [List.length_set] <;> rfl)), hw1.ext_out⟩
  refine Z485 ?_
  refine Z54 ?_
  refine JD_bool 135 rfl (fun hq14 => ?_) (fun hq14 => ?_)
  rotate_left
  ·refine JD_skips 8 rfl ?_
   refine Z325 ?_
   refine Z184 ?_
   refine Z437 ?_
   refine JX_ret Tryz.results8 (Res.tmp rfl Res.nil) (fun w1 hw1 => ?_)
   exact ⟨(by rw [(((((hF.neg hq1).neg hq2).neg hq12).t hq13).f hq14).eq] <;> first | rfl | (simp only [List.length_set] <;> rfl)), hw1.ext_out⟩
  refine Z364 ?_
  refine Z364 ?_
  refine JD_qg q_add (k := ?_)
  refine Z338 ?_
  refine JD_dec 145 rfl (fun hq15 => ?_) (fun hq15 => ?_)
  rotate_left
  ·refine JD_skips 7 rfl ?_
   refine Z184 ?_
   refine Z437 ?_
   refine JX_ret Tryz.results8 (Res.tmp rfl Res.nil) (fun w1 hw1 => ?_)
   exact ⟨(by rw [((((((hF.neg hq1).neg hq2).neg hq12).t hq13).t hq14).neg hq15).eq] <;> first | rfl | (simp only [List.length_set] <;> rfl)), hw1.ext_out⟩
  refine Z144 ?_
  refine JD_qg (q_idx (n := (gFind ((gApply (gCut r) 3 (Command.mk 7 ((gCutC c).name) 0 0 ((gCutC c).rule) ([] : Str) 0 0) now).1) ((gCutC c).name)).1.rules.length) Tryz.runUnderlying49 Tryz.sizeOf34 0 (ho1_12.slj eRule_ok) (gD (by first | exact ix)) (by first | rfl | simp)) (k := ?_)
  refine JD_qg (q_loadEA Tryz.isAgg34 Tryz.sizeOf34 0 (ho1_12.slj eRule_ok) (gD (by first | exact ix))) (k := ?_)
  refine JD_qg (q_fld FO_36_4) (k := ?_)
  refine JD_qg (q_loadA Tryz.isAgg34 Tryz.sizeOf34) (k := ?_)
  refine JD_qg (q_eqS (EQ_34 _ _ _ _ _ _ _ _ _ _ _ _)) (k := ?_)
  refine Z54 ?_
  refine JD_dec 154 rfl (fun hq16 => ?_) (fun hq16 => ?_)
  rotate_left
  ·refine JD_skips 3 rfl ?_
   refine Z437 ?_
   refine JX_ret Tryz.results8 (Res.tmp rfl Res.nil) (fun w1 hw1 => ?_)
   exact ⟨(by rw [(((((((hF.neg hq1).neg hq2).neg hq12).t hq13).t hq14).pos hq15).neg hq16).eq] <;> first | rfl | (simp only [List.length_set] <;> rfl)), hw1.ext_out⟩
  refine Z314 ?_
  refine Z338 ?_
  refine JD_dec 159 rfl (fun hq17 => ?_) (fun hq17 => ?_)
  rotate_left
  ·refine JD_skips 5 rfl ?_
   refine Z139 ?_
   refine JX_ret Tryz.results8 (Res.tmp rfl Res.nil) (fun w1 hw1 => ?_)
   exact ⟨(by rw [((((((((hF.neg hq1).neg hq2).neg hq12).t hq13).t hq14).pos hq15).pos hq16).neg hq17).eq] <;> first | rfl | (simp only [List.length_set] <;> rfl)), hw1.ext_out⟩
  refine Z144 ?_
  refine Z144 ?_
  refine JD_vg (c_callA Tryz.call25) (fun w1 hw1 => rlSame_ok w1 (a := ((gFind ((gApply ((gApply (gCut r) 3 (Command.mk 7 ((gCutC c).name) 0 0 ((gCutC c).rule) ([] : Str) 0 0) now).1) 3 (Command.mk 7 ((gCutC c).name) 0 (-1) (Rule.mk false (Prefix.mk 0 0) (PortsT.mk 0 0)) ([] : Str) 0 0) now).1) ((gCutC c).name)).1.rules)) (b := ((gFind (gCut r) ((gCutC c).name)).1.rules)) (h_a := (ho1_13.slj eRule_ok) w1 hw1) (n_a := by first | omega | (simp; done) | exact Nat.le_trans (by assumption) (by decide)) (h_b := (ho1_2.slj eRule_ok) w1 hw1) (n_b := by first | omega | (simp; done) | exact Nat.le_trans (by assumption) (by decide))) (k := ?_)
  refine Z359 ?_
  refine JX_ret Tryz.results8 (Res.tmp rfl Res.nil) (fun w1 hw1 => ?_)
  exact ⟨(by rw [((((((((hF.neg hq1).neg hq2).neg hq12).t hq13).t hq14).pos hq15).pos hq16).pos hq17).eq] <;> first | rfl | (simp only [List.length_set] <;> rfl)), hw1.ext_out⟩
 refine Z485 ?_
 refine JD_qg (q_lenS Tryz.runUnderlying50) (k := ?_)
 refine Z479 ?_
 refine JD_dec 72 rfl (fun hq3 => ?_) (fun hq3 => ?_)
 ·refine JD_skips 10 rfl ?_
  refine JD_qg q_pickT (k := ?_)
  refine Z485 ?_
  refine JD_skips 6 rfl ?_
  refine JD_qg q_pickT (k := ?_)
  refine Z286 ?_
  refine J_seq ?_
  refine Z451 ?_
  refine JX_ret Tryz.results8 (Res.tmp rfl Res.nil) (fun w1 hw1 => ?_)
  exact ⟨(by rw [(((hF.neg hq1).pos hq2).pos hq3).eq] <;> first | rfl | (simp only [List.length_set] <;> rfl)), hw1.ext_out⟩
 refine Z311 ?_
 refine JD_qg (q_lenS Tryz.runUnderlying50) (k := ?_)
 refine JD_qg q_sub (k := ?_)
 refine JD_qg (q_idx (n := (cHolding ((gFind ((gApply (gCut r) 3 (Command.mk 6 ((gCutC c).name) 0 0 (Rule.mk false (Prefix.mk 0 0) (PortsT.mk 0 0)) ((gCutC c).key) ((gCutC c).n) ((gCutC c).m)) now).1) ((gCutC c).name)).1.creds) now).length) Tryz.runUnderlying50 Tryz.sizeOf62 ((((((cHolding ((gFind ((gApply (gCut r) 3 (Command.mk 6 ((gCutC c).name) 0 0 (Rule.mk false (Prefix.mk 0 0) (PortsT.mk 0 0)) ((gCutC c).key) ((gCutC c).n) ((gCutC c).m)) now).1) ((gCutC c).name)).1.creds) now).length) : Nat) : Int) - 1).toNat) (ho1_5.slj eCred_ok) (gD (by first | exact ix)) (by first | rfl | simp)) (k := ?_)
 refine JD_qg (q_fldE FO_62_1) (k := ?_)
 refine JD_qg (q_loadE Tryz.isAgg9 ((((((cHolding ((gFind ((gApply (gCut r) 3 (Command.mk 6 ((gCutC c).name) 0 0 (Rule.mk false (Prefix.mk 0 0) (PortsT.mk 0 0)) ((gCutC c).key) ((gCutC c).n) ((gCutC c).m)) now).1) ((gCutC c).name)).1.creds) now).length) : Nat) : Int) - 1).toNat) 1 (ho1_5.slj eCred_ok) (gD (by first | exact ix))) (k := ?_)
 refine JD_qg (q_fld FO_36_5) (k := ?_)
 refine JD_qg (q_load Tryz.isAgg9) (k := ?_)
 refine JD_qg q_neT (k := ?_)
 refine JD_qg q_pickF (k := ?_)
 refine Z485 ?_
 refine JD_dec 84 rfl (fun hq4 => ?_) (fun hq4 => ?_)
 ·refine JD_skips 6 rfl ?_
  refine JD_qg q_pickT (k := ?_)
  refine Z286 ?_
  refine J_seq ?_
  refine Z451 ?_
  refine JX_ret Tryz.results8 (Res.tmp rfl Res.nil) (fun w1 hw1 => ?_)
  exact ⟨(by rw [((((hF.neg hq1).pos hq2).neg hq3).pos hq4).eq] <;> first | rfl | (simp only [List.length_set] <;> rfl)), hw1.ext_out⟩
 refine Z374 ?_
 refine Z374 ?_
 refine JD_qg q_add (k := ?_)
 refine JD_qg q_neq (k := ?_)
 refine JD_qg q_pickF (k := ?_)
 refine Z92 ?_
 refine Z0 ?_
 refine J_dec rfl (fun hq5 => ?_) (fun hq5 => ?_)
 ·refine J_seq ?_
  refine Z451 ?_
  refine JX_ret Tryz.results8 (Res.tmp rfl Res.nil) (fun w1 hw1 => ?_)
  exact ⟨(by rw [(((((hF.neg hq1).pos hq2).neg hq3).neg hq4).pos hq5).eq] <;> first | rfl | (simp only [List.length_set] <;> rfl)), hw1.ext_out⟩
 refine Z167 ?_
 refine J_subL _ (sx (sd (sx (sx (sd (sk (sa (sa (sa (sk (sk sz))))))))))) ?_
 refine Z50 ?_
 refine Z84 ?_
 refine JL_q (q_fld FO_36_4) (k := ?_)
 refine Z470 ?_
 refine Z93 ?_
 rintro w1_6 e1_6 w2_6 hw1_6 ⟨a1_6, c1_6, a2_6, c2_6, a3_6, c3_6, a4_6, c4_6, t4_6, B_6, he_6, hf_6, hs1_6, hs2_6, hs3_6, hs4_6, hl1_6, hl2_6, hl3_6, hl4_6⟩
 refine ⟨_, _, he_6, hw1_6.fresh hf_6, ?_⟩
 have hap_92188 := gApply_small 3 (Command.mk 7 ((gCutC c).name) 0 0 ((gCutC c).rule) ([] : Str) 0 0) now (by first | assumption | exact Small.nil : Small ((gCut r).l))
 have hab_92188 := gApply_bd (gCut r) 3 (Command.mk 7 ((gCutC c).name) 0 0 ((gCutC c).rule) ([] : Str) 0 0) now
 try dsimp only at hab_92188
 refine Z37 ?_
 refine JL_a noMk (a_alloc (l := [_, _, _, _, _]) Tryz.zeroValue28) (k := fun r7 hr7 => ?_)
 refine JL_a noMk (a_alloc (l := [_, _, _, _, _, _]) Tryz.zeroValue44) (k := fun r8 hr8 => ?_)
 refine Z455 ?_
 refine J_subL _ (sk (sk (sa (sk (sa (sa (sx (sk (sd sz))))))))) ?_
 refine Z425 ?_
 refine Z190 ?_
 refine J_dec rfl (fun hq6 => ?_) (fun hq6 => ?_)
 ·refine J_seq ?_
  refine Z535 ?_
  refine Z376 ?_
  refine JX_ret Tryz.results8 (Res.tmp rfl Res.nil) (fun w1 hw1 => ?_)
  exact ⟨(by rw [((((((hF.neg hq1).pos hq2).neg hq3).neg hq4).neg hq5).pos hq6).eq] <;> first | rfl | (simp only [List.length_set] <;> rfl)), hw1.ext_out⟩
 refine Z167 ?_
 refine Z535 ?_
 refine Z50 ?_
 refine Z84 ?_
 refine Z148 ?_
 refine JL_p (c_callA Tryz.call17) (fun w1 hw1 => gApply_ok w1 (r := ((gApply (gCut r) 3 (Command.mk 7 ((gCutC c).name) 0 0 ((gCutC c).rule) ([] : Str) 0 0) now).1)) (role := 3) (c := (Command.mk 7 ((gCutC c).name) 0 (-1) (Rule.mk false (Prefix.mk 0 0) (PortsT.mk 0 0)) ([] : Str) 0 0)) (now := now) (h_r_slots_gens := (SlB.slj hs1_6) w1 hw1) (n_r_slots_gens := by first | omega | (simp; done) | exact Nat.le_trans (by assumption) (by decide)) (h_r_slots_used := (SlB.slj hs2_6) w1 hw1) (n_r_slots_used := by first | omega | (simp; done) | exact Nat.le_trans (by assumption) (by decide)) (h_r_slots_free := (SlB.slj hs3_6) w1 hw1) (n_r_slots_free := by first | omega | (simp; done) | exact Nat.le_trans (by assumption) (by decide)) (h_r_l := (SlNB.j hs4_6.1 sh).2 w1 hw1) (n_r_l := by first | omega | (simp; done) | exact Nat.le_trans (by assumption) (by decide)) (k_r_l := hs4_6.2) (i_c_at_ := by first | exact i_c_at_ | (simp; done) | (exact ⟨by decide, by decide⟩) | omega) (hG := hG.ext hw1.ext_out) (hE := hE.ext hw1.ext_out) (hsm := by first | assumption | exact Small.nil)) (k := ?_)
 rintro w1_7 e1_7 w2_7 hw1_7 ⟨a1_7, c1_7, a2_7, c2_7, a3_7, c3_7, a4_7, c4_7, t4_7, B_7, he_7, hf_7, hs1_7, hs2_7, hs3_7, hs4_7, hl1_7, hl2_7, hl3_7, hl4_7⟩
 refine ⟨_, _, he_7, hw1_7.fresh hf_7, ?_⟩
 have hap_72396 := gApply_small 3 (Command.mk 7 ((gCutC c).name) 0 (-1) (Rule.mk false (Prefix.mk 0 0) (PortsT.mk 0 0)) ([] : Str) 0 0) now (by first | assumption | exact Small.nil : Small ((gApply (gCut r) 3 (Command.mk 7 ((gCutC c).name) 0 0 ((gCutC c).rule) ([] : Str) 0 0) now).1.l))
 have hab_72396 := gApply_bd ((gApply (gCut r) 3 (Command.mk 7 ((gCutC c).name) 0 0 ((gCutC c).rule) ([] : Str) 0 0) now).1) 3 (Command.mk 7 ((gCutC c).name) 0 (-1) (Rule.mk false (Prefix.mk 0 0) (PortsT.mk 0 0)) ([] : Str) 0 0) now
 try dsimp only at hab_72396
 refine Z37 ?_
 refine JL_a noMk (a_alloc (l := [_, _, _, _, _]) Tryz.zeroValue28) (k := fun r9 hr9 => ?_)
 refine JL_a noMk (a_alloc (l := [_, _, _, _, _, _]) Tryz.zeroValue44) (k := fun r10 hr10 => ?_)
 refine Z19 ?_
 refine Z392 ?_
 refine Z84 ?_
 refine JL_p (c_callA Tryz.call20) (fun w1 hw1 => gFind_ok w1 (r := ((gApply (gCut r) 3 (Command.mk 7 ((gCutC c).name) 0 0 ((gCutC c).rule) ([] : Str) 0 0) now).1)) (name := ((gCutC c).name)) (h_r_slots_gens := (SlB.slj hs1_6) w1 hw1) (n_r_slots_gens := by first | omega | (simp; done) | exact Nat.le_trans (by assumption) (by decide)) (h_r_slots_used := (SlB.slj hs2_6) w1 hw1) (n_r_slots_used := by first | omega | (simp; done) | exact Nat.le_trans (by assumption) (by decide)) (h_r_slots_free := (SlB.slj hs3_6) w1 hw1) (n_r_slots_free := by first | omega | (simp; done) | exact Nat.le_trans (by assumption) (by decide)) (h_r_l := (SlNB.j hs4_6.1 sh).2 w1 hw1) (n_r_l := by first | omega | (simp; done) | exact Nat.le_trans (by assumption) (by decide)) (k_r_l := hs4_6.2) (hsm := by first | assumption | exact Small.nil)) (k := ?_)
 rintro w1_8 e1_8 w2_8 hw1_8 ⟨a1_8, c1_8, a2_8, c2_8, B1_8, B2_8, he_8, hf_8, ho1_8, ho2_8, hl1_8, hl2_8⟩
 refine ⟨_, _, he_8, (hw1_8.fresh hf_8).perm (eqp (nA rfl)), ?_⟩
 have hfv_41194 := gFind_ver ((gApply (gCut r) 3 (Command.mk 7 ((gCutC c).name) 0 0 ((gCutC c).rule) ([] : Str) 0 0) now).1) ((gCutC c).name)
 refine Z37 ?_
 refine JL_a noMk (a_alloc (l := [_, _, _, _, _, _, _, _]) Tryz.zeroValue52) (k := fun r11 hr11 => ?_)
 refine Z122 ?_
 refine J_subL _ (sk (sa (sa (sk (sk (sa (sd (sx (sk (sa (sa (sk sz)))))))))))) ?_
 refine Z50 ?_
 refine Z84 ?_
 refine JL_p (c_callA Tryz.call20) (fun w1 hw1 => gFind_ok w1 (r := ((gApply ((gApply (gCut r) 3 (Command.mk 7 ((gCutC c).name) 0 0 ((gCutC c).rule) ([] : Str) 0 0) now).1) 3 (Command.mk 7 ((gCutC c).name) 0 (-1) (Rule.mk false (Prefix.mk 0 0) (PortsT.mk 0 0)) ([] : Str) 0 0) now).1)) (name := ((gCutC c).name)) (h_r_slots_gens := (SlB.slj hs1_7) w1 hw1) (n_r_slots_gens := by first | omega | (simp; done) | exact Nat.le_trans (by assumption) (by decide)) (h_r_slots_used := (SlB.slj hs2_7) w1 hw1) (n_r_slots_used := by first | omega | (simp; done) | exact Nat.le_trans (by assumption) (by decide)) (h_r_slots_free := (SlB.slj hs3_7) w1 hw1) (n_r_slots_free := by first | omega | (simp; done) | exact Nat.le_trans (by assumption) (by decide)) (h_r_l := (SlNB.j hs4_7.1 sh).2 w1 hw1) (n_r_l := by first | omega | (simp; done) | exact Nat.le_trans (by assumption) (by decide)) (k_r_l := hs4_7.2) (hsm := by first | assumption | exact Small.nil)) (k := ?_)
 rintro w1_9 e1_9 w2_9 hw1_9 ⟨a1_9, c1_9, a2_9, c2_9, B1_9, B2_9, he_9, hf_9, ho1_9, ho2_9, hl1_9, hl2_9⟩
 refine ⟨_, _, he_9, (hw1_9.fresh hf_9).perm (eqp (nA rfl)), ?_⟩
 have hfv_23833 := gFind_ver ((gApply ((gApply (gCut r) 3 (Command.mk 7 ((gCutC c).name) 0 0 ((gCutC c).rule) ([] : Str) 0 0) now).1) 3 (Command.mk 7 ((gCutC c).name) 0 (-1) (Rule.mk false (Prefix.mk 0 0) (PortsT.mk 0 0)) ([] : Str) 0 0) now).1) ((gCutC c).name)
 refine Z37 ?_
 refine JL_a noMk (a_alloc (l := [_, _, _, _, _, _, _, _]) Tryz.zeroValue52) (k := fun r12 hr12 => ?_)
 refine Z122 ?_
 refine Z182 ?_
 refine Z62 ?_
 refine JD_bool 132 rfl (fun hq7 => ?_) (fun hq7 => ?_)
 rotate_left
 ·refine JD_skip (k := ?_)
  refine Z23 ?_
  refine JD_skips 8 rfl ?_
  refine Z325 ?_
  refine Z184 ?_
  refine Z437 ?_
  refine JX_ret Tryz.results8 (Res.tmp rfl Res.nil) (fun w1 hw1 => ?_)
  exact ⟨(by rw [(((((((hF.neg hq1).pos hq2).neg hq3).neg hq4).neg hq5).neg hq6).f hq7).eq] <;> first | rfl | (simp only [List.length_set] <;> rfl)), hw1.ext_out⟩
 refine Z485 ?_
 refine Z54 ?_
 refine JD_bool 135 rfl (fun hq8 => ?_) (fun hq8 => ?_)
 rotate_left
 ·refine JD_skips 8 rfl ?_
  refine Z325 ?_
  refine Z184 ?_
  refine Z437 ?_
  refine JX_ret Tryz.results8 (Res.tmp rfl Res.nil) (fun w1 hw1 => ?_)
  exact ⟨(by rw [((((((((hF.neg hq1).pos hq2).neg hq3).neg hq4).neg hq5).neg hq6).t hq7).f hq8).eq] <;> first | rfl | (simp only [List.length_set] <;> rfl)), hw1.ext_out⟩
 refine Z364 ?_
 refine Z364 ?_
 refine JD_qg q_add (k := ?_)
 refine Z338 ?_
 refine JD_dec 145 rfl (fun hq9 => ?_) (fun hq9 => ?_)
 rotate_left
 ·refine JD_skips 7 rfl ?_
  refine Z184 ?_
  refine Z437 ?_
  refine JX_ret Tryz.results8 (Res.tmp rfl Res.nil) (fun w1 hw1 => ?_)
  exact ⟨(by rw [(((((((((hF.neg hq1).pos hq2).neg hq3).neg hq4).neg hq5).neg hq6).t hq7).t hq8).neg hq9).eq] <;> first | rfl | (simp only [List.length_set] <;> rfl)), hw1.ext_out⟩
 refine Z144 ?_
 refine JD_qg (q_idx (n := (gFind ((gApply (gCut r) 3 (Command.mk 7 ((gCutC c).name) 0 0 ((gCutC c).rule) ([] : Str) 0 0) now).1) ((gCutC c).name)).1.rules.length) Tryz.runUnderlying49 Tryz.sizeOf34 0 (ho1_8.slj eRule_ok) (gD (by first | exact ix)) (by first | rfl | simp)) (k := ?_)
 refine JD_qg (q_loadEA Tryz.isAgg34 Tryz.sizeOf34 0 (ho1_8.slj eRule_ok) (gD (by first | exact ix))) (k := ?_)
 refine JD_qg (q_fld FO_36_4) (k := ?_)
 refine JD_qg (q_loadA Tryz.isAgg34 Tryz.sizeOf34) (k := ?_)
 refine JD_qg (q_eqS (EQ_34 _ _ _ _ _ _ _ _ _ _ _ _)) (k := ?_)
 refine Z54 ?_
 refine JD_dec 154 rfl (fun hq10 => ?_) (fun hq10 => ?_)
 rotate_left
 ·refine JD_skips 3 rfl ?_
  refine Z437 ?_
  refine JX_ret Tryz.results8 (Res.tmp rfl Res.nil) (fun w1 hw1 => ?_)
  exact ⟨(by rw [((((((((((hF.neg hq1).pos hq2).neg hq3).neg hq4).neg hq5).neg hq6).t hq7).t hq8).pos hq9).neg hq10).eq] <;> first | rfl | (simp only [List.length_set] <;> rfl)), hw1.ext_out⟩
 refine Z314 ?_
 refine Z338 ?_
 refine JD_dec 159 rfl (fun hq11 => ?_) (fun hq11 => ?_)
 rotate_left
 ·refine JD_skips 5 rfl ?_
  refine Z139 ?_
  refine JX_ret Tryz.results8 (Res.tmp rfl Res.nil) (fun w1 hw1 => ?_)
  exact ⟨(by rw [(((((((((((hF.neg hq1).pos hq2).neg hq3).neg hq4).neg hq5).neg hq6).t hq7).t hq8).pos hq9).pos hq10).neg hq11).eq] <;> first | rfl | (simp only [List.length_set] <;> rfl)), hw1.ext_out⟩
 refine Z144 ?_
 refine Z144 ?_
 refine JD_vg (c_callA Tryz.call25) (fun w1 hw1 => rlSame_ok w1 (a := ((gFind ((gApply ((gApply (gCut r) 3 (Command.mk 7 ((gCutC c).name) 0 0 ((gCutC c).rule) ([] : Str) 0 0) now).1) 3 (Command.mk 7 ((gCutC c).name) 0 (-1) (Rule.mk false (Prefix.mk 0 0) (PortsT.mk 0 0)) ([] : Str) 0 0) now).1) ((gCutC c).name)).1.rules)) (b := ((gFind (gCut r) ((gCutC c).name)).1.rules)) (h_a := (ho1_9.slj eRule_ok) w1 hw1) (n_a := by first | omega | (simp; done) | exact Nat.le_trans (by assumption) (by decide)) (h_b := (ho1_2.slj eRule_ok) w1 hw1) (n_b := by first | omega | (simp; done) | exact Nat.le_trans (by assumption) (by decide))) (k := ?_)
 refine Z359 ?_
 refine JX_ret Tryz.results8 (Res.tmp rfl Res.nil) (fun w1 hw1 => ?_)
 exact ⟨(by rw [(((((((((((hF.neg hq1).pos hq2).neg hq3).neg hq4).neg hq5).neg hq6).t hq7).t hq8).pos hq9).pos hq10).pos hq11).eq] <;> first | rfl | (simp only [List.length_set] <;> rfl)), hw1.ext_out⟩

end Go.Proofs.YtopjaeoklkpcpaaGreatDoor.Jd

