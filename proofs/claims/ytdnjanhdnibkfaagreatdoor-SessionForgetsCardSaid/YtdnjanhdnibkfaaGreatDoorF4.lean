/- Part of the proofs of this seat: walks and plain facts. No condition. -/
import Derived.Test.YtdnjanhdnibkfaaGreatDoorF0
import Derived.Test.YtdnjanhdnibkfaaGreatDoorProg
import Derived.Test.YtdnjanhdnibkfaaGreatDoorChecked
import Derived.WalkKit
import Derived.LaidEql
import Derived.Stop.Asserts
import Derived.RowKitTokens
import Derived.Test.YtdnjanhdnibkfaaGreatDoorF3
import Derived.Test.YtdnjanhdnibkfaaGreatDoorF1
import Derived.Test.YtdnjanhdnibkfaaGreatDoorF2
namespace Go.Proofs.YtdnjanhdnibkfaaGreatDoor.Jd
open Go.Proofs.Tryz
open Go.Proofs
open Go.RowKit (Below)
set_option maxRecDepth 100000
set_option maxHeartbeats 8000000
set_option linter.unusedVariables false
set_option linter.unusedSimpArgs false
def DT (w : World) (x : Ah) (t : TA) : Prop := Sl w Nk 5 t.ra x.rules ∧ Sl w Jh 4 t.ca x.creds ∧ x.rules.length ≤ t.rc ∧ x.creds.length ≤ t.cc
theorem Ji : gH DT := fun w w' x t hc h => ⟨h.1.cmono hc, h.2.1.cmono hc, h.2.2⟩
def Fo (x : Ah × TA) : List Value := [vi x.1.handle.slot, vi x.1.handle.gen, Value.string (bs x.1.name), vi x.1.state, vi x.1.version, vs x.2.ra x.1.rules.length x.2.rc, vs x.2.ca x.1.creds.length x.2.cc, vi x.1.deadline]
theorem Bt : Dm Fo 8 := ⟨by omega, fun _ => rfl, fun _ => rfl⟩
theorem pV : Ba Tryz.prog 34 0 0 := fun r k w => by simp [Instr.fieldAt, Instr.sureAddr, fieldPlace, Ao]
theorem Py : Ba Tryz.prog 34 1 3 := fun r k w => by simp [Instr.fieldAt, Instr.sureAddr, fieldPlace, Ao]
theorem Nl : Ba Tryz.prog 34 2 4 := fun r k w => by simp [Instr.fieldAt, Instr.sureAddr, fieldPlace, Ao]
theorem Li : Ba Tryz.prog 50 0 0 := fun r k w => by simp [Instr.fieldAt, Instr.sureAddr, fieldPlace, Ao]
theorem Zh : Ba Tryz.prog 50 1 2 := fun r k w => by simp [Instr.fieldAt, Instr.sureAddr, fieldPlace, Ao]
theorem Sf : Ba Tryz.prog 50 2 3 := fun r k w => by simp [Instr.fieldAt, Instr.sureAddr, fieldPlace, Ao]
theorem gW : Ba Tryz.prog 50 3 4 := fun r k w => by simp [Instr.fieldAt, Instr.sureAddr, fieldPlace, Ao]
theorem Vq : Ba Tryz.prog 50 4 5 := fun r k w => by simp [Instr.fieldAt, Instr.sureAddr, fieldPlace, Ao]
theorem gX : Ba Tryz.prog 50 5 6 := fun r k w => by simp [Instr.fieldAt, Instr.sureAddr, fieldPlace, Ao]
theorem gY : Ba Tryz.prog 50 6 7 := fun r k w => by simp [Instr.fieldAt, Instr.sureAddr, fieldPlace, Ao]
theorem Ml : Ba Tryz.prog 104 0 0 := fun r k w => by simp [Instr.fieldAt, Instr.sureAddr, fieldPlace, Ao]
theorem zD : Ba Tryz.prog 104 1 8 := fun r k w => by simp [Instr.fieldAt, Instr.sureAddr, fieldPlace, Ao]
theorem zE : Ej Tryz.prog 104 [(0, 8), (8, 1)] := ⟨_, fun w => runUnderlying104 w, fun w => by simp⟩
theorem bQ (w : World) {s : Ai} : Gz Tryz.prog 177 [(vt s)] w (Value.bool (Pu s)) := by
 have hF := Is.refl (Pu s)
 refine enter func177 ntmps177 (h := ?_)
 refine Mq ?_
 refine Ad xB (k := ?_)
 refine Cg ?_
 refine Aw 5 rfl (fun hq1 => ?_) (fun hq1 => ?_)
 rotate_left
 ·refine Ag 3 rfl ?_
  refine AK2 ?_
  refine Lr ?_
  refine Ac results177 z1 (fun w1 hw1 => ?_)
  exact ⟨(rq (hF.neg hq1)), hw1.ext_out⟩
 refine Ep ?_
 refine An (fX runUnderlying9) (k := ?_)
 refine An Oe (k := ?_)
 refine Qq ?_
 refine Aw 10 rfl (fun hq2 => ?_) (fun hq2 => ?_)
 rotate_left
 ·refine Ag 2 rfl ?_
  refine Lr ?_
  refine Ac results177 z1 (fun w1 hw1 => ?_)
  exact ⟨(rq ((hF.pos hq1).neg hq2)), hw1.ext_out⟩
 refine Ep ?_
 refine Mv (Aa call225) (fun w1 hw1 => sY w1 (s := s)) (k := ?_)
 refine Ry ?_
 refine Ac results177 z1 (fun w1 hw1 => ?_)
 exact ⟨(rq ((hF.pos hq1).pos hq2)), hw1.ext_out⟩

theorem dC (w : World) {t_1_rules_a : Option Addr} {t_1_rules_c : Nat} {t_1_creds_a : Option Addr} {t_1_creds_c : Nat} {t : (Ah × Int)} (h_t_1_rules : Sl w Nk 5 t_1_rules_a t.1.rules) (h_t_1_creds : Sl w Jh 4 t_1_creds_a t.1.creds) : Gz Tryz.prog 120 [(Value.agg [(vi t.1.handle.slot), (vi t.1.handle.gen), (vt t.1.name), (vi t.1.state), (vi t.1.version), (vs t_1_rules_a t.1.rules.length t_1_rules_c), (vs t_1_creds_a t.1.creds.length t_1_creds_c), (vi t.1.deadline), (vi t.2)].toArray)] w (Value.bool (Ic t)) := by
 have hF := Is.refl (Ic t)
 refine enter func120 ntmps120 (h := ?_)
 refine Z2 ?_
 refine Aj Ae z93 (k := fun r1 hr1 => ?_)
 refine Oy ?_
 refine mT ?_
 refine Ad (Al gW) (k := ?_)
 refine mI ?_
 refine Aw 7 rfl (fun hq1 => ?_) (fun hq1 => ?_)
 rotate_left
 ·refine Ag 6 rfl ?_
  refine Lr ?_
  refine Ac results120 z1 (fun w1 hw1 => ?_)
  exact ⟨(rq (hF.neg hq1)), hw1.ext_out⟩
 refine jI ?_
 refine An (Al gW) (k := ?_)
 refine Qv ?_
 refine An (Al zD) (k := ?_)
 refine eW ?_
 refine Ry ?_
 refine Ac results120 z1 (fun w1 hw1 => ?_)
 exact ⟨(rq (hF.pos hq1)), hw1.ext_out⟩

theorem dD (w : World) {t_1_rules_a : Option Addr} {t_1_rules_c : Nat} {t_1_creds_a : Option Addr} {t_1_creds_c : Nat} {t : (Ah × Int)} (h_t_1_rules : Sl w Nk 5 t_1_rules_a t.1.rules) (h_t_1_creds : Sl w Jh 4 t_1_creds_a t.1.creds) : Gz Tryz.prog 121 [(Value.agg [(vi t.1.handle.slot), (vi t.1.handle.gen), (vt t.1.name), (vi t.1.state), (vi t.1.version), (vs t_1_rules_a t.1.rules.length t_1_rules_c), (vs t_1_creds_a t.1.creds.length t_1_creds_c), (vi t.1.deadline), (vi t.2)].toArray)] w (Value.bool (Ie t)) := by
 have hF := Is.refl (Ie t)
 refine enter func121 ntmps121 (h := ?_)
 refine Z2 ?_
 refine Aj Ae z93 (k := fun r1 hr1 => ?_)
 refine Oy ?_
 refine mT ?_
 refine Ad (Al Sf) (k := ?_)
 refine mI ?_
 refine Aw 7 rfl (fun hq1 => ?_) (fun hq1 => ?_)
 rotate_left
 ·refine Ag 4 rfl ?_
  refine mM ?_
  refine mM ?_
  refine Te ?_
  refine Ag 10 rfl ?_
  refine Lr ?_
  refine Ac results121 z1 (fun w1 hw1 => ?_)
  exact ⟨(rq (hF.neg hq1)), hw1.ext_out⟩
 refine jI ?_
 refine An (Al Sf) (k := ?_)
 refine eW ?_
 refine Qq ?_
 refine Aw 13 rfl (fun hq2 => ?_) (fun hq2 => ?_)
 rotate_left
 ·refine Ag 4 rfl ?_
  refine mM ?_
  refine Te ?_
  refine Ag 10 rfl ?_
  refine Lr ?_
  refine Ac results121 z1 (fun w1 hw1 => ?_)
  exact ⟨(rq ((hF.pos hq1).neg hq2)), hw1.ext_out⟩
 refine jI ?_
 refine An (Al gY) (k := ?_)
 refine Qv ?_
 refine An My (k := ?_)
 refine Qq ?_
 refine Aw 19 rfl (fun hq3 => ?_) (fun hq3 => ?_)
 rotate_left
 ·refine Ag 4 rfl ?_
  refine Te ?_
  refine Ag 10 rfl ?_
  refine Lr ?_
  refine Ac results121 z1 (fun w1 hw1 => ?_)
  exact ⟨(rq (((hF.pos hq1).pos hq2).neg hq3)), hw1.ext_out⟩
 refine jI ?_
 refine An (Al gY) (k := ?_)
 refine eW ?_
 refine Qq ?_
 refine Aw 25 rfl (fun hq4 => ?_) (fun hq4 => ?_)
 rotate_left
 ·refine Ag 10 rfl ?_
  refine Lr ?_
  refine Ac results121 z1 (fun w1 hw1 => ?_)
  exact ⟨(rq ((((hF.pos hq1).pos hq2).pos hq3).neg hq4)), hw1.ext_out⟩
 refine jI ?_
 refine An (Al gY) (k := ?_)
 refine rC ?_
 refine Ep ?_
 refine Aw 30 rfl (fun hq5 => ?_) (fun hq5 => ?_)
 ·refine Ag 4 rfl ?_
  refine An Fx (k := ?_)
  refine Ry ?_
  refine Ac results121 z1 (fun w1 hw1 => ?_)
  exact ⟨(rq (((((hF.pos hq1).pos hq2).pos hq3).pos hq4).pos hq5)), hw1.ext_out⟩
 refine jI ?_
 refine An (Al Sf) (k := ?_)
 refine rC ?_
 refine An Du (k := ?_)
 refine Ry ?_
 refine Ac results121 z1 (fun w1 hw1 => ?_)
 exact ⟨(rq (((((hF.pos hq1).pos hq2).pos hq3).pos hq4).neg hq5)), hw1.ext_out⟩

theorem lC (w : World) {t_1_rules_a : Option Addr} {t_1_rules_c : Nat} {t_1_creds_a : Option Addr} {t_1_creds_c : Nat} {t : (Ah × Int)} (h_t_1_rules : Sl w Nk 5 t_1_rules_a t.1.rules) (n_t_1_rules : t.1.rules.length ≤ 1000) (h_t_1_creds : Sl w Jh 4 t_1_creds_a t.1.creds) (n_t_1_creds : t.1.creds.length ≤ 1000) : Gz Tryz.prog 122 [(Value.agg [(vi t.1.handle.slot), (vi t.1.handle.gen), (vt t.1.name), (vi t.1.state), (vi t.1.version), (vs t_1_rules_a t.1.rules.length t_1_rules_c), (vs t_1_creds_a t.1.creds.length t_1_creds_c), (vi t.1.deadline), (vi t.2)].toArray)] w (Value.bool (Mi t)) := by
 have hF := Is.refl (Mi t)
 refine enter func122 ntmps122 (h := ?_)
 refine Z2 ?_
 refine Aj Ae z93 (k := fun r1 hr1 => ?_)
 refine Oy ?_
 refine mT ?_
 refine Ad (Al Zh) (k := ?_)
 refine Nn ?_
 refine Co (Aa call177) (fun w1 hw1 => bQ w1 (s := t.1.name)) (k := ?_)
 refine Cg ?_
 refine Cs 7 rfl (fun hq1 => ?_) (fun hq1 => ?_)
 rotate_left
 ·refine Ag 4 rfl ?_
  refine mM ?_
  refine Lr ?_
  refine Ac results122 z1 (fun w1 hw1 => ?_)
  exact ⟨(rq (hF.f hq1)), hw1.ext_out⟩
 refine jI ?_
 refine An (Al Vq) (k := ?_)
 refine An (Bb isAgg47) (k := ?_)
 refine Mv (Aa call56) (fun w1 hw1 => Xn w1 (l := t.1.rules) (h_l := (Ch.of_base h_t_1_rules) w1 hw1) (n_l := Nm)) (k := ?_)
 refine Qq ?_
 refine Cs 13 rfl (fun hq2 => ?_) (fun hq2 => ?_)
 rotate_left
 ·refine Ag 4 rfl ?_
  refine Lr ?_
  refine Ac results122 z1 (fun w1 hw1 => ?_)
  exact ⟨(rq ((hF.t hq1).f hq2)), hw1.ext_out⟩
 refine jI ?_
 refine An (Al gX) (k := ?_)
 refine An (Bb isAgg48) (k := ?_)
 refine Mv (Aa call101) (fun w1 hw1 => Wz w1 (l := t.1.creds) (h_l := (Ch.of_base h_t_1_creds) w1 hw1) (n_l := Nm)) (k := ?_)
 refine Ry ?_
 refine Ac results122 z1 (fun w1 hw1 => ?_)
 exact ⟨(rq ((hF.t hq1).t hq2)), hw1.ext_out⟩

theorem eJ (w : World) {r_Sg_a : Option Addr} {r_Sg_c : Nat} {r_Su_a : Option Addr} {r_Su_c : Nat} {r_Sf_a : Option Addr} {r_Sf_c : Nat} {r_l_a : Option Addr} {r_l_c : Nat} {r_l_t : List TA} {r : Bs} {name : Ai} (h_r_Sg : Sl w eI 1 r_Sg_a r.slots.gens) (n_r_Sg : r.slots.gens.length ≤ 1000) (h_r_Su : Sl w eB 1 r_Su_a r.slots.used) (n_r_Su : r.slots.used.length ≤ 1000) (h_r_Sf : Sl w eI 1 r_Sf_a r.slots.free) (n_r_Sf : r.slots.free.length ≤ 1000) (h_r_l : cG w Fo 8 DT r_l_a r.l r_l_t) (n_r_l : r.l.length ≤ 1000) (k_r_l : r.l.length ≤ r_l_c) : Gz Tryz.prog 41 [(Value.agg [(vs r_Sg_a r.slots.gens.length r_Sg_c), (vs r_Su_a r.slots.used.length r_Su_c), (vs r_Sf_a r.slots.free.length r_Sf_c), (vs r_l_a r.l.length r_l_c), (vi r.seq)].toArray), (vt name)] w (Value.tuple [(vi ((Hj r name).1)), (Value.bool ((Hj r name).2))].toArray) := by
 have hF := Is.refl (Hj r name)
 refine Pi func41 ntmps41 (h := ?_)
 refine Z2 ?_
 refine Aj Ae oT (k := fun r1 hr1 => ?_)
 refine Aj Ae Qh (k := fun r2 hr2 => ?_)
 refine Aj Ae S5 (k := fun r3 hr3 => ?_)
 refine Aj Ae S6 (k := fun r4 hr4 => ?_)
 refine Jk ?_
 refine AA5 ?_
 refine Z2 ?_
 refine Aj Ae oT (k := fun r5 hr5 => ?_)
 refine Uc ?_
 refine Av results90 z1 ?_
 refine Kt ?_
 refine Fc Ae rfl call147 func147 ntmps147 (fun l6 rD6 rr6 hl6 => ?_)
 refine Ye ?_
 refine vJ ?_
 refine sA ?_
 refine Lt ?_
 refine Ka (σ1 := Nat) (σ2 := Nat) (fun n_2 x_1 => ((l6, Cb rr6 .ready none) :: ((rD6, Obj.deferred (some [])) :: ((r5, oc [(vs r_Sg_a r.slots.gens.length r_Sg_c), (vs r_Su_a r.slots.used.length r_Su_c), (vs r_Sf_a r.slots.free.length r_Sf_c), (vs r_l_a r.l.length r_l_c), (vi r.seq)] 34) :: ((r4, oc [(Value.bool false)] 4) :: ((r3, oc [(vi 0)] 3) :: ((r2, oc [(vt name)] 9) :: ((r1, oc [(vs r_Sg_a r.slots.gens.length r_Sg_c), (vs r_Su_a r.slots.used.length r_Su_c), (vs r_Sf_a r.slots.free.length r_Sf_c), (vs r_l_a r.l.length r_l_c), (vi r.seq)] 34) :: [])))))))) (fun n_2 x_1 => [(0, (Value.func (.yield l6) [].toArray [].toArray)), (1, (Value.pointer (some ⟨r5, 0, none⟩))), (6, (vs r_l_a r.l.length r_l_c)), (7, (vi ((r.l.length : Nat) : Int))), (8, (vi ((x_1 : Nat) : Int)))]) (fun n_2 x_1 => r.l.length - x_1 < n_2 ∧ Is (Hm r name (r.l.length + 1) 0) (Hm r name n_2 x_1) ∧ x_1 ≤ r.l.length) (fun n_2 x_1 => n_2) (r.l.length + 1) 0 ?_ se (List.Perm.refl _) ?_
 ·exact ⟨Nat.lt_succ_self _, Is.refl _, Qc⟩
 ·rintro (_ | n_2) x_1 ⟨hm4, hF3, hi5⟩
  ·omega
  refine Tx ?_
  refine Bd rfl (fun hq1 => ?_) (fun hq1 => ?_)
  rotate_left
  ·refine Cu ?_
   refine Jl ?_
   refine Gg (.inr rfl) results147 q0 ?_
   refine Ti ?_
   refine vY ?_
   refine iE ?_
   refine Db [rD6] (qa q0) results41 (Bk.word isAgg3 rfl me rfl iA) (fun w1 hw1 => ?_)
   exact ⟨(rq (hF.ok1 (hF3.neg hq1))), hw1.ext_out⟩
  refine Qd ?_
  refine X1 ?_
  have hcp2 := (h_r_l.2.2 x_1 Da).2.2.1
  have hcp3 := (h_r_l.2.2 x_1 Da).2.2.2
  refine AB6 ?_
  refine Aj Ae Zl (k := fun r7 hr7 => ?_)
  refine Y5 ?_
  refine Z0 ?_
  refine Qp ?_
  refine Ad S7 (k := ?_)
  refine Y6 ?_
  refine Jt (vs := [(vi ((x_1 : Nat) : Int)), (Value.agg [(vi ((r.l.getD x_1 default).handle.slot)), (vi ((r.l.getD x_1 default).handle.gen)), (vt ((r.l.getD x_1 default).name)), (vi ((r.l.getD x_1 default).state)), (vi ((r.l.getD x_1 default).version)), (vs ((r_l_t.getD x_1 default).ra) ((r.l.getD x_1 default).rules.length) ((r_l_t.getD x_1 default).rc)), (vs ((r_l_t.getD x_1 default).ca) ((r.l.getD x_1 default).creds.length) ((r_l_t.getD x_1 default).cc)), (vi ((r.l.getD x_1 default).deadline)), (vi r.seq)].toArray)]) hl6 (qa q0) Dh ?_
  refine Z2 ?_
  refine Z1 ?_
  refine Dn ?_
  refine Aj Ae (Bz (l := [_, _, _, _, _, _, _, _, _]) zeroValue104) (k := fun r8 hr8 => ?_)
  refine Z9 ?_
  refine uH ?_
  refine Z2 ?_
  refine mT ?_
  refine Ad (Al Zh) (k := ?_)
  refine Nn ?_
  refine Nn ?_
  refine Ad T7 (k := ?_)
  refine Z0 ?_
  refine Bd rfl (fun hq4 => ?_) (fun hq4 => ?_)
  rotate_left
  ·refine Br ?_
   refine Eu ?_
   refine Ex q0 ?_
   refine Oc ?_
   refine Pb ?_
   refine Dj _ (((((((qa (qa (qa (qa (qa (qa (qa (qa q0)))))))).trans (qa (qa (qa (qa (qa (qa (qa (qa q0))))))))).trans (qa (qa (qa (qa (qa (qa (qa (qa q0))))))))).trans (qa (qa (qa (qa (qa (qa (qa (qa q0))))))))).trans (qa (qa (qa (qa (qa (qa (qa (qa q0))))))))).trans (qa (qa (qa (qa (qa (qa (qa (qa q0))))))))).trans (qa (qa (qa (qa (qa (qa q0))))))) ?_
   refine Cc _ (List.Sublist.cons_cons _ R8) ?_
   exact Hw n_2 (x_1 + 1) ⟨by omega, ((hF3.pos hq1).neg hq4), z8⟩ (Nat.lt_succ_self _) se (List.Perm.refl _)
  refine Z3 ?_
  refine vY ?_
  refine iE ?_
  refine vU ?_
  refine Sn ?_
  refine fA ?_
  refine Jl ?_
  refine rK ?_
  refine Z7 ?_
  refine Db [rD6] (qa (qa (qa q0))) results41 (Bk.word isAgg3 rfl me rfl iA) (fun w1 hw1 => ?_)
  exact ⟨(rq (hF.er1 ((hF3.pos hq1).pos hq4))), hw1.ext_out⟩

theorem tH (w : World) {r_Sg_a : Option Addr} {r_Sg_c : Nat} {r_Su_a : Option Addr} {r_Su_c : Nat} {r_Sf_a : Option Addr} {r_Sf_c : Nat} {r_l_a : Option Addr} {r_l_c : Nat} {r_l_t : List TA} {r : Bs} (h_r_Sg : Sl w eI 1 r_Sg_a r.slots.gens) (n_r_Sg : r.slots.gens.length ≤ 1000) (h_r_Su : Sl w eB 1 r_Su_a r.slots.used) (n_r_Su : r.slots.used.length ≤ 1000) (h_r_Sf : Sl w eI 1 r_Sf_a r.slots.free) (n_r_Sf : r.slots.free.length ≤ 1000) (h_r_l : cG w Fo 8 DT r_l_a r.l r_l_t) (n_r_l : r.l.length ≤ 1000) (k_r_l : r.l.length ≤ r_l_c) (hsm : Gq r.l) : Gz Tryz.prog 73 [(Value.agg [(vs r_Sg_a r.slots.gens.length r_Sg_c), (vs r_Su_a r.slots.used.length r_Su_c), (vs r_Sf_a r.slots.free.length r_Sf_c), (vs r_l_a r.l.length r_l_c), (vi r.seq)].toArray)] w (Value.bool (Tq r)) := by
 have hF := Is.refl (Tq r)
 refine Pi func73 ntmps73 (h := ?_)
 refine Z2 ?_
 refine Aj Ae oT (k := fun r1 hr1 => ?_)
 refine Aj Ae S6 (k := fun r2 hr2 => ?_)
 refine Qn ?_
 refine E6 ?_
 refine Pj (Aa call117) (fun w1 hw1 => O2 w1 (s := r.slots) (h_s_gens := (Ch.of_base h_r_Sg) w1 hw1) (n_s_gens := Nm) (h_s_used := (Ch.of_base h_r_Su) w1 hw1) (n_s_used := Nm) (h_s_free := (Ch.of_base h_r_Sf) w1 hw1) (n_s_free := Nm)) (k := ?_)
 rintro w1_1 e1_1 w2_1 hw1_1 ⟨a1_1, c1_1, B_1, he_1, hf_1, hs1_1, hl1_1⟩
 refine ⟨_, _, he_1, hw1_1.fresh hf_1, ?_⟩
 refine Aj Ae (Bz (l := [_]) zeroValue212) (k := fun r3 hr3 => ?_)
 refine Eh (Bc (l' := [_]) sizeOf212) (k := ?_)
 refine Jk ?_
 refine Z2 ?_
 refine E6 ?_
 refine Co (Aa call118) (fun w1 hw1 => eD w1 (s := r.slots) (h_s_gens := (Ch.of_base h_r_Sg) w1 hw1) (n_s_gens := Nm) (h_s_used := (Ch.of_base h_r_Su) w1 hw1) (n_s_used := Nm) (h_s_free := (Ch.of_base h_r_Sf) w1 hw1) (n_s_free := Nm)) (k := ?_)
 refine rP ?_
 refine Cs 14 rfl (fun hq1 => ?_) (fun hq1 => ?_)
 ·refine Ag 3 rfl ?_
  refine Yd ?_
  refine Qq ?_
  refine Ag 6 rfl ?_
  refine Ua ?_
  refine cP ?_
  refine Db [] (List.Perm.refl _) results73 iA (fun w1 hw1 => ?_)
  exact ⟨(rq (hF.t hq1)), hw1.ext_out⟩
 have hfhq1 := Vj uF
 refine An (Al Nl) (k := ?_)
 refine uT ?_
 refine Te ?_
 refine Aw 19 rfl (fun hq2 => ?_) (fun hq2 => ?_)
 ·refine Ag 3 rfl ?_
  refine Qq ?_
  refine Ag 6 rfl ?_
  refine Ua ?_
  refine cP ?_
  refine Db [] (List.Perm.refl _) results73 iA (fun w1 hw1 => ?_)
  exact ⟨(rq ((hF.f hq1).pos hq2)), hw1.ext_out⟩
 refine An (Al Nl) (k := ?_)
 refine uJ ?_
 refine Te ?_
 refine Aw 24 rfl (fun hq3 => ?_) (fun hq3 => ?_)
 ·refine Ag 6 rfl ?_
  refine Ua ?_
  refine cP ?_
  refine Db [] (List.Perm.refl _) results73 iA (fun w1 hw1 => ?_)
  exact ⟨(rq (((hF.f hq1).neg hq2).pos hq3)), hw1.ext_out⟩
 refine An (Bb isAgg212) (k := ?_)
 refine An (Dg runUnderlying212) (k := ?_)
 refine An (Al Py) (k := ?_)
 refine An (Bb isAgg32) (k := ?_)
 refine An (Dg runUnderlying32) (k := ?_)
 refine An Og (k := ?_)
 refine Rx ?_
 refine Bd rfl (fun hq4 => ?_) (fun hq4 => ?_)
 ·refine Bw ?_
  refine Dn ?_
  refine cP ?_
  refine Db [] (List.Perm.refl _) results73 iA (fun w1 hw1 => ?_)
  exact ⟨(rq ((((hF.f hq1).neg hq2).neg hq3).pos hq4)), hw1.ext_out⟩
 refine Wd ?_
 refine Aj Ae Sx (k := fun r4 hr4 => ?_)
 refine Aj Ae (Bz (l := [_]) zeroValue215) (k := fun r5 hr5 => ?_)
 refine Eh (Bc (l' := [_]) sizeOf215) (k := ?_)
 refine Jk ?_
 refine AA5 ?_
 refine Z2 ?_
 refine Aj Ae oT (k := fun r6 hr6 => ?_)
 refine Uc ?_
 refine Av results90 z1 ?_
 refine Kt ?_
 refine Fc Ae rfl call147 func147 ntmps147 (fun l7 rD7 rr7 hl7 => ?_)
 refine Ye ?_
 refine vJ ?_
 refine sA ?_
 refine Lt ?_
 refine Uj (σ1 := Nat) (σ2 := Nat) (σ3 := List Ai) (σ4 := Array MapEntry) (σ5 := Nat) (fun n_3 x_1 x_2 x_2e x_2k => ((l7, Cb rr7 .ready none) :: ((rD7, Obj.deferred (some [])) :: ((r6, oc [(vs r_Sg_a r.slots.gens.length r_Sg_c), (vs r_Su_a r.slots.used.length r_Su_c), (vs r_Sf_a r.slots.free.length r_Sf_c), (vs r_l_a r.l.length r_l_c), (vi r.seq)] 34) :: ((r5, oc [(Value.map (some r4))] 215) :: ((r4, Obj.map x_2e x_2k) :: ((r3, oc [(vs a1_1 ((Ss r.slots).length) c1_1)] 212) :: (B_1 ++ ((r2, oc [(Value.bool false)] 4) :: ((r1, oc [(vs r_Sg_a r.slots.gens.length r_Sg_c), (vs r_Su_a r.slots.used.length r_Su_c), (vs r_Sf_a r.slots.free.length r_Sf_c), (vs r_l_a r.l.length r_l_c), (vi r.seq)] 34) :: [])))))))))) (fun n_3 x_1 x_2 x_2e x_2k => [(0, (Value.func (.yield l7) [].toArray [].toArray)), (1, (Value.pointer (some ⟨r6, 0, none⟩))), (6, (vs r_l_a r.l.length r_l_c)), (7, (vi ((r.l.length : Nat) : Int))), (8, (vi ((x_1 : Nat) : Int)))]) (fun n_3 x_1 x_2 x_2e x_2k => r.l.length - x_1 < n_3 ∧ Is (Lo r (r.l.length + 1) 0 ([] : List Ai)) (Lo r n_3 x_1 x_2) ∧ Me (fun s : Ai => Value.string (bs s)) x_2e x_2 ∧ x_1 ≤ r.l.length) (fun n_3 x_1 x_2 x_2e x_2k => n_3) (r.l.length + 1) 0 ([] : List Ai) (#[]) 0 ?_ se (List.Perm.refl _) ?_
 ·exact ⟨Nat.lt_succ_self _, Is.refl _, Me.nil, Qc⟩
 ·rintro (_ | n_3) x_1 x_2 x_2e x_2k ⟨hm5, hF4, hx_2, hi6⟩
  ·omega
  refine Tx ?_
  refine Bd rfl (fun hq5 => ?_) (fun hq5 => ?_)
  rotate_left
  ·refine Cu ?_
   refine Jl ?_
   refine Gg (.inr rfl) results147 q0 ?_
   refine Ti ?_
   refine iE ?_
   refine Db [rD7] (qa q0) results73 iA (fun w1 hw1 => ?_)
   exact ⟨(rq (((((hF.f hq1).neg hq2).neg hq3).neg hq4).ok2 (hF4.neg hq5))), hw1.ext_out⟩
  refine Qd ?_
  refine X1 ?_
  have hcp6 := (h_r_l.2.2 x_1 Da).2.2.1
  have hcp7 := (h_r_l.2.2 x_1 Da).2.2.2
  refine AB6 ?_
  refine Aj Ae Zl (k := fun r8 hr8 => ?_)
  refine Y5 ?_
  refine Z0 ?_
  refine Qp ?_
  refine Ad S7 (k := ?_)
  refine Y6 ?_
  refine Jt (vs := [(vi ((x_1 : Nat) : Int)), (Value.agg [(vi ((r.l.getD x_1 default).handle.slot)), (vi ((r.l.getD x_1 default).handle.gen)), (vt ((r.l.getD x_1 default).name)), (vi ((r.l.getD x_1 default).state)), (vi ((r.l.getD x_1 default).version)), (vs ((r_l_t.getD x_1 default).ra) ((r.l.getD x_1 default).rules.length) ((r_l_t.getD x_1 default).rc)), (vs ((r_l_t.getD x_1 default).ca) ((r.l.getD x_1 default).creds.length) ((r_l_t.getD x_1 default).cc)), (vi ((r.l.getD x_1 default).deadline)), (vi r.seq)].toArray)]) hl7 (qa q0) Dh ?_
  refine Z2 ?_
  refine Z1 ?_
  refine Dn ?_
  refine Aj Ae (Bz (l := [_, _, _, _, _, _, _, _, _]) zeroValue104) (k := fun r9 hr9 => ?_)
  refine Z9 ?_
  refine uH ?_
  refine Ez ?_
  refine Ez ?_
  refine Dw mixed 21 [(true, 0), (true, 1), (true, 2), (true, 3), (true, 4), (true, 5), (true, 6), (true, 7), (true, 8), (true, 9), (true, 10), (true, 11), (true, 12), (true, 13), (true, 14), (true, 15), (true, 16), (false, 17), (false, 18), (true, 19), (true, 20)] z6 ?_
  refine Ay (Al Ml) (k := ?_)
  refine AA2 ?_
  refine Ay (Bb isAgg212) (k := ?_)
  refine Fi ?_
  refine Ay (Dl (n := (Ss r.slots).length) runUnderlying212 sizeOf23 x_1 (Hb.slj hs1_1) (gD Da) Lp) (k := ?_)
  refine Ay (Ht isAgg23 sizeOf23 x_1 (Hb.slj hs1_1) (gD Da)) (k := ?_)
  refine Ay (aY (AP1 _ _ _ _ _ _)) (k := ?_)
  refine Fi ?_
  refine Ge 45 rfl (fun hq8 => ?_) (fun hq8 => ?_)
  ·refine Bl 5 rfl ?_
   refine Tf ?_
   refine Bl 4 rfl ?_
   refine iY ?_
   refine tZ ?_
   refine cP ?_
   refine vU ?_
   refine Sn ?_
   refine fA ?_
   refine Jl ?_
   refine rK ?_
   refine Z7 ?_
   refine Db [rD7] (qa (qa (qa q0))) results73 iA (fun w1 hw1 => ?_)
   exact ⟨(rq (((((hF.f hq1).neg hq2).neg hq3).neg hq4).er2 ((hF4.pos hq5).pos hq8))), hw1.ext_out⟩
  refine Bj (Bb isAgg215) (k := ?_)
  refine Bj (Al Ml) (k := ?_)
  refine Bj (Al Zh) (k := ?_)
  refine Bj (Bb isAgg9) (k := ?_)
  refine Bj (xS (xs := x_2) ((r.l.getD x_1 default).name) xL runUnderlying215 runUnderlying9 zeroValue4 hx_2) (k := ?_)
  refine eR ?_
  refine Ge 52 rfl (fun hq9 => ?_) (fun hq9 => ?_)
  ·refine Bl 4 rfl ?_
   refine iY ?_
   refine tZ ?_
   refine cP ?_
   refine vU ?_
   refine Sn ?_
   refine fA ?_
   refine Jl ?_
   refine rK ?_
   refine Z7 ?_
   refine Db [rD7] (qa (qa (qa q0))) results73 iA (fun w1 hw1 => ?_)
   exact ⟨(rq (((((hF.f hq1).neg hq2).neg hq3).neg hq4).er2 (((hF4.pos hq5).neg hq8).pos hq9))), hw1.ext_out⟩
  refine Bj (Bq isAgg104 sizeOf104) (k := ?_)
  refine AN7 Ae (Dd (l := [_, _, _]) runUnderlying281 sizeOf217 zeroValue217) (k := fun r10 hr10 => ?_)
  refine Yu (args := [_, _]) (Aa call119) func119 ntmps119 ?_
  refine Z2 ?_
  refine Aj Ae z93 (k := fun r11 hr11 => ?_)
  refine Hc ?_
  refine Ad (Dg runUnderlying281) (k := ?_)
  refine Zx ?_
  refine Ad (Dy runUnderlying281 sizeOf217 0) (k := ?_)
  refine Ad (Bb isAgg217) (k := ?_)
  refine Mu ?_
  refine Ad (Bq isAgg104 sizeOf104) (k := ?_)
  refine Co (Aa call120) (fun w1 hw1 => dC w1 (t := ((r.l.getD x_1 default), r.seq)) (h_t_1_rules := (fun w hw => ((Hh.of_base Ji h_r_l).at (m := x_1) Da w hw).1) w1 hw1) (h_t_1_creds := (fun w hw => ((Hh.of_base Ji h_r_l).at (m := x_1) Da w hw).2.1) w1 hw1)) (k := ?_)
  refine Oc ?_
  refine Dc rfl (fun hq10 => ?_) (fun hq10 => ?_)
  ·refine Bw ?_
   refine Lf ?_
   refine C3 ?_
   refine cM ?_
   refine tZ ?_
   refine cP ?_
   refine Et ?_
   refine Kc (qa (qa q0)) ?_
   refine Sn ?_
   refine fA ?_
   refine Jl ?_
   refine rK ?_
   refine Z7 ?_
   refine Db [rD7] (qa (qa (qa (qa (qa q0))))) results73 iA (fun w1 hw1 => ?_)
   exact ⟨(rq (((((hF.f hq1).neg hq2).neg hq3).neg hq4).er2 ((((hF4.pos hq5).neg hq8).neg hq9).t hq10))), hw1.ext_out⟩
  refine Wa ?_
  refine Ad (Dy runUnderlying281 sizeOf217 1) (k := ?_)
  refine Ad (Bb isAgg217) (k := ?_)
  refine Mu ?_
  refine Ad (Bq isAgg104 sizeOf104) (k := ?_)
  refine Co (Aa call121) (fun w1 hw1 => dD w1 (t := ((r.l.getD x_1 default), r.seq)) (h_t_1_rules := (fun w hw => ((Hh.of_base Ji h_r_l).at (m := x_1) Da w hw).1) w1 hw1) (h_t_1_creds := (fun w hw => ((Hh.of_base Ji h_r_l).at (m := x_1) Da w hw).2.1) w1 hw1)) (k := ?_)
  refine Oc ?_
  refine Dc rfl (fun hq11 => ?_) (fun hq11 => ?_)
  ·refine Bw ?_
   refine Lf ?_
   refine C3 ?_
   refine cM ?_
   refine tZ ?_
   refine cP ?_
   refine Et ?_
   refine Kc (qa (qa q0)) ?_
   refine Sn ?_
   refine fA ?_
   refine Jl ?_
   refine rK ?_
   refine Z7 ?_
   refine Db [rD7] (qa (qa (qa (qa (qa q0))))) results73 iA (fun w1 hw1 => ?_)
   exact ⟨(rq (((((hF.f hq1).neg hq2).neg hq3).neg hq4).er2 (((((hF4.pos hq5).neg hq8).neg hq9).f hq10).t hq11))), hw1.ext_out⟩
  refine Wa ?_
  refine Ad (Dy runUnderlying281 sizeOf217 2) (k := ?_)
  refine Ad (Bb isAgg217) (k := ?_)
  refine Mu ?_
  refine Ad (Bq isAgg104 sizeOf104) (k := ?_)
  refine Co (Aa call122) (fun w1 hw1 => lC w1 (t := ((r.l.getD x_1 default), r.seq)) (h_t_1_rules := (fun w hw => ((Hh.of_base Ji h_r_l).at (m := x_1) Da w hw).1) w1 hw1) (n_t_1_rules := by first | omega | (simp; done) | exact (hsm _ z8).1 | exact (hsm _ z8).2) (h_t_1_creds := (fun w hw => ((Hh.of_base Ji h_r_l).at (m := x_1) Da w hw).2.1) w1 hw1) (n_t_1_creds := by first | omega | (simp; done) | exact (hsm _ z8).1 | exact (hsm _ z8).2)) (k := ?_)
  refine Oc ?_
  refine Dc rfl (fun hq12 => ?_) (fun hq12 => ?_)
  ·refine Bw ?_
   refine Lf ?_
   refine C3 ?_
   refine cM ?_
   refine tZ ?_
   refine cP ?_
   refine Et ?_
   refine Kc (qa (qa q0)) ?_
   refine Sn ?_
   refine fA ?_
   refine Jl ?_
   refine rK ?_
   refine Z7 ?_
   refine Db [rD7] (qa (qa (qa (qa (qa q0))))) results73 iA (fun w1 hw1 => ?_)
   exact ⟨(rq (((((hF.f hq1).neg hq2).neg hq3).neg hq4).er2 ((((((hF4.pos hq5).neg hq8).neg hq9).f hq10).f hq11).t hq12))), hw1.ext_out⟩
  refine Wb ?_
  refine C3 ?_
  refine cM ?_
  refine Pa ?_
  refine Dn ?_
  refine Ad (Bb isAgg215) (k := ?_)
  refine mT ?_
  refine Ad (Al Zh) (k := ?_)
  refine Nn ?_
  refine Yx (xs := x_2) ((r.l.getD x_1 default).name) xL runUnderlying215 runUnderlying9 hx_2 Zn (qa (qa (qa (qa (qa (qa (qa (qa q0)))))))) (k := fun em3 km3 hms3 => ?_)
  refine vG ?_
  refine Ex (qa (qa (qa q0))) ?_
  refine Oc ?_
  refine Pb ?_
  refine Dj _ (((((((((qa (qa (qa (qa (qa (qa (qa (qa (qa (qa (qc (qa q0)))))))))))).trans (qa (qa (qa (qa (qa (qa (qa (qa (qa (qa (qa (qc q0))))))))))))).trans (qb (qb (qb (qb (qb (qb (qb (qb (qb (qb (qb (qb q0))))))))))))).trans (qc (qa (qa (qa (qa (qa (qa (qa (qa (qa (qa (qa q0))))))))))))).trans (qa (qc (qa (qa (qa q0)))))).trans (qa (qa (qc (qa (qa (qa (qa (qa (qa (qa (qa (qa q0))))))))))))).trans (qa (qa (qa (qc (qa (qa (qa (qa (qa (qa (qa (qa q0))))))))))))).trans (qa (qa (qa (qa (qc (qa (qa (qa (qa (qa (qa (qa q0))))))))))))).trans (qa (qa (qa (qa (qa (qc (qa (qa q0))))))))) ?_
  refine Cc _ (List.Sublist.cons_cons _ (List.Sublist.cons_cons _ (List.Sublist.cons_cons _ (List.Sublist.cons_cons _ (List.Sublist.cons_cons _ (List.Sublist.cons_cons _ (List.Sublist.append Xw (List.Sublist.cons_cons _ (List.Sublist.cons_cons _ Mt))))))))) ?_
  exact Uk n_3 (x_1 + 1) (x_2 ++ [((r.l.getD x_1 default).name)]) em3 km3 ⟨by omega, ((((((hF4.pos hq5).neg hq8).neg hq9).f hq10).f hq11).f hq12), hms3, z8⟩ (Nat.lt_succ_self _) se (List.Perm.refl _)

end Go.Proofs.YtdnjanhdnibkfaaGreatDoor.Jd

namespace Go.Proofs.YtdnjanhdnibkfaaGreatDoor.Jd
open Go.Proofs.Tryz
open Go.Proofs
open Go.RowKit (Below)
set_option maxRecDepth 100000
set_option maxHeartbeats 8000000
set_option linter.unusedVariables false
set_option linter.unusedSimpArgs false
def Pz (r : Bs) : Nat → Nat → List Ah → Nat × (List Ah)
  | 0, x_1, x_2 => (x_1, x_2)
  | n_3 + 1, x_1, x_2 => (if ((x_1 : Nat) : Int) < ((r.l.length : Nat) : Int) then (Pz r n_3 (x_1 + 1) (x_2 ++ ([(((r.l.getD x_1 default), r.seq).1)] : List Ah))) else (x_1, x_2))
def Rs (r : Bs) : Bs := (Iw (Pz r (r.l.length + 1) 0 []) (fun x_1 x_2 => (Bs.mk r.slots x_2 r.seq)))
def Ct (r : Bs) (name : Ai) : Ah × Bool := (if (!((Hj r name).2)) = true then ((Ah.mk (Handle.mk 0 0) ([] : Ai) 0 0 ([]) ([]) 0), false) else ((((r.l.getD ((((Hj r name).1)).toNat) default), r.seq).1), true))
def Cd (n_ : Int) : Bs × Int := ((Bs.mk ((Wq n_).1) ([]) 0), ((Wq n_).2))
end Go.Proofs.YtdnjanhdnibkfaaGreatDoor.Jd

namespace Go.Proofs.YtdnjanhdnibkfaaGreatDoor.Jd
open Go.Proofs.Tryz
open Go.Proofs
open Go.RowKit (Below)
set_option maxRecDepth 100000
set_option maxHeartbeats 8000000
set_option linter.unusedVariables false
set_option linter.unusedSimpArgs false
def Sg (l : List (Ah × TA)) (x : Ah × TA) : Nat → Nat → Nat
  | 0, at_1 => (at_1)
  | n_2 + 1, at_1 => (if ((at_1 : Nat) : Int) < ((l.length : Nat) : Int) then (if ((l.getD at_1 default).1.handle.slot) < x.1.handle.slot then (Sg l x n_2 (at_1 + 1)) else (at_1)) else (at_1))
def tI (l : List (Ah × TA)) (x : Ah × TA) : List (Ah × TA) := (Ns (Sg l x (l.length + 1) 0) (fun at_1 => (if 0 < ((((l.drop at_1).length) : Nat) : Int) then (if (((l.drop at_1).getD 0 default).1.handle.slot) = x.1.handle.slot then (if (0 + ((((l.take at_1).length) : Nat) : Int)) < 0 then default else (if ((0 + ((((l.take at_1).length) : Nat) : Int)) + 1) < 0 then default else (if (((0 + ((((l.take at_1).length) : Nat) : Int)) + 1) + (((((l.drop at_1).drop 1).length) : Nat) : Int)) < 0 then default else ((((([] : List (Ah × TA))) ++ (l.take at_1)) ++ ([x] : List (Ah × TA))) ++ ((l.drop at_1).drop 1))))) else (if (0 + ((((l.take at_1).length) : Nat) : Int)) < 0 then default else (if ((0 + ((((l.take at_1).length) : Nat) : Int)) + 1) < 0 then default else (if (((0 + ((((l.take at_1).length) : Nat) : Int)) + 1) + ((((l.drop at_1).length) : Nat) : Int)) < 0 then default else ((((([] : List (Ah × TA))) ++ (l.take at_1)) ++ ([x] : List (Ah × TA))) ++ (l.drop at_1)))))) else (if (0 + ((((l.take at_1).length) : Nat) : Int)) < 0 then default else (if ((0 + ((((l.take at_1).length) : Nat) : Int)) + 1) < 0 then default else (if (((0 + ((((l.take at_1).length) : Nat) : Int)) + 1) + ((((l.drop at_1).length) : Nat) : Int)) < 0 then default else ((((([] : List (Ah × TA))) ++ (l.take at_1)) ++ ([x] : List (Ah × TA))) ++ (l.drop at_1))))))))
end Go.Proofs.YtdnjanhdnibkfaaGreatDoor.Jd

namespace Go.Proofs.YtdnjanhdnibkfaaGreatDoor.Jd
open Go.Proofs.Tryz
set_option linter.unusedVariables false
set_option linter.unusedSimpArgs false
theorem Ig {α : Type} [Inhabited α] {l : List α} {i : Nat} (h : i < l.length) : l.drop i = l.getD i default :: l.drop (i + 1) := by
  rw [List.drop_eq_getElem_cons h, List.getD_eq_getElem?_getD, List.getElem?_eq_getElem h]; rfl
theorem bR (r : Bs) : ∀ n i acc, r.l.length < i + n → i ≤ r.l.length → (Pz r n i acc).2 = acc ++ r.l.drop i
  | 0, i, acc, h1, h2 => by omega
  | n + 1, i, acc, h1, h2 => by
    unfold Pz
    by_cases hi : i < r.l.length
    · rw [if_pos z8, bR r n (i + 1) _ z8 z8, Ig hi]; simp
    · rw [if_neg z8, List.drop_eq_nil_of_le z8]; simp
theorem P1 (r : Bs) : Rs r = r := by
  unfold Rs
  have h := bR r (r.l.length + 1) 0 [] z8 z8
  cases e : Pz r (r.l.length + 1) 0 [] with
  | mk a b =>
    rw [e] at h
    simp only [Iw]
    rw [show b = r.l by simpa using h]
theorem Xo (r : Bs) (name : Ai) : ∀ n i, (Fg (Hm r name n i) (fun r => r) (fun x_1 => ((0 : Int), false))).2 = true → 0 ≤ (Fg (Hm r name n i) (fun r => r) (fun x_1 => ((0 : Int), false))).1 ∧ (Fg (Hm r name n i) (fun r => r) (fun x_1 => ((0 : Int), false))).1 < r.l.length
  | 0, i => by simp [Hm, Fg]
  | n + 1, i => by
    unfold Hm
    by_cases hi : i < r.l.length
    · rw [if_pos z8]
      by_cases hn : (r.l.getD i default).name = name
      · rw [if_pos hn]; intro _; simp only [Fg]; omega
      · rw [if_neg hn]; exact Xo r name n (i + 1)
    · rw [if_neg z8]; simp [Fg]
theorem zF {r : Bs} {name : Ai} (h : (Hj r name).2 = true) : 0 ≤ (Hj r name).1 ∧ (Hj r name).1 < r.l.length := Xo r name _ _ h
end Go.Proofs.YtdnjanhdnibkfaaGreatDoor.Jd

namespace Go.Proofs.YtdnjanhdnibkfaaGreatDoor.Jd
open Go.Proofs.Tryz
set_option linter.unusedVariables false
set_option linter.unusedSimpArgs false
def oM : List (Ah × TA) → Ah × TA → List (Ah × TA)
  | [], x => [x]
  | t :: r, x => if t.1.handle.slot < x.1.handle.slot then t :: oM r x else if t.1.handle.slot = x.1.handle.slot then x :: r else x :: t :: r
def St : List Ah → Ah → List Ah
  | [], x => [x]
  | t :: r, x => if t.handle.slot < x.handle.slot then t :: St r x else if t.handle.slot = x.handle.slot then x :: r else x :: t :: r
def bS : List Ah → List TA → Ah → TA → List TA
  | t :: r, u :: us, x, v => if t.handle.slot < x.handle.slot then u :: bS r us x v else if t.handle.slot = x.handle.slot then v :: us else v :: u :: us
  | _, _, x, v => [v]
theorem lD : ∀ (xs : List Ah) (ts : List TA) (x : Ah) (v : TA), ts.length = xs.length → oM (List.zip xs ts) (x, v) = List.zip (St xs x) (bS xs ts x v)
  | [], ts, x, v, h => by
    have : ts = [] := List.length_eq_zero_iff.1 h
    subst this; rfl
  | t :: r, [], x, v, h => by simp at h
  | t :: r, u :: us, x, v, h => by
    have h' : us.length = r.length := by simpa using h
    simp only [List.zip_cons_cons, oM, St, bS]
    split
    · rw [lD r us x v h']; rfl
    · split <;> rfl
theorem bT (l : List Ah) (x : Ah) : (St l x).length ≤ l.length + 1 := by
  induction l with
  | nil => simp [St]
  | cons t r ih =>
    unfold St
    split
    · simp only [List.length_cons]; omega
    · split <;> simp
theorem Xp : ∀ (xs : List Ah) (ts : List TA) (x : Ah) (v : TA), ts.length = xs.length → (bS xs ts x v).length = (St xs x).length
  | [], ts, x, v, h => by
    have : ts = [] := List.length_eq_zero_iff.1 h
    subst this; rfl
  | t :: r, [], x, v, h => by simp at h
  | t :: r, u :: us, x, v, h => by
    have h' : us.length = r.length := by simpa using h
    simp only [St, bS]
    split
    · simp only [List.length_cons]; rw [Xp r us x v h']
    · split <;> simp [h']
theorem bU (l : List (Ah × TA)) (x : Ah × TA) : ∀ n i, l.length < i + n → i ≤ l.length → Sg l x n i = i + ((l.drop i).takeWhile fun t => decide (t.1.handle.slot < x.1.handle.slot)).length
  | 0, i, h1, h2 => by omega
  | n + 1, i, h1, h2 => by
    unfold Sg
    by_cases hi : i < l.length
    · rw [if_pos z8, Ig hi, List.takeWhile_cons]
      by_cases hs : (l.getD i default).1.handle.slot < x.1.handle.slot
      · rw [if_pos hs, if_pos (by simpa using hs), bU l x n (i + 1) z8 z8, List.length_cons]; omega
      · rw [if_neg hs, if_neg (by simpa using hs)]; rfl
    · rw [if_neg z8, List.drop_eq_nil_of_le z8]; rfl
theorem pW (x : Ah × TA) : ∀ l : List (Ah × TA), oM l x = l.take (l.takeWhile fun t => decide (t.1.handle.slot < x.1.handle.slot)).length ++ [x] ++ (if 0 < (l.drop (l.takeWhile fun t => decide (t.1.handle.slot < x.1.handle.slot)).length).length ∧ ((l.drop (l.takeWhile fun t => decide (t.1.handle.slot < x.1.handle.slot)).length).getD 0 default).1.handle.slot = x.1.handle.slot then (l.drop (l.takeWhile fun t => decide (t.1.handle.slot < x.1.handle.slot)).length).drop 1 else l.drop (l.takeWhile fun t => decide (t.1.handle.slot < x.1.handle.slot)).length)
  | [] => by simp [oM]
  | t :: r => by
    unfold oM
    by_cases hs : t.1.handle.slot < x.1.handle.slot
    · rw [if_pos hs, List.takeWhile_cons, if_pos (by simpa using hs), pW x r]
      simp only [List.length_cons, List.take_succ_cons, List.drop_succ_cons, List.cons_append]
    · have hd : ¬ (decide (t.1.handle.slot < x.1.handle.slot) = true) := by simpa using hs
      rw [if_neg hs, List.takeWhile_cons, if_neg hd]
      by_cases he : t.1.handle.slot = x.1.handle.slot
      · rw [if_pos he]; simp [he]
      · rw [if_neg he]; simp [he]
theorem P2 (l : List (Ah × TA)) (x : Ah × TA) : tI l x = oM l x := by
  have h := bU l x (l.length + 1) 0 z8 z8
  simp only [List.drop_zero, Nat.zero_add] at h
  unfold tI
  rw [h, pW]
  simp only [Ns]
  generalize (l.takeWhile fun t => decide (t.1.handle.slot < x.1.handle.slot)).length = k
  by_cases h1 : 0 < (l.drop k).length
  · rw [if_pos z8]
    by_cases h2 : ((l.drop k).getD 0 default).1.handle.slot = x.1.handle.slot
    · rw [if_pos h2, if_neg z8, if_neg z8, if_neg z8, if_pos ⟨h1, h2⟩]; rfl
    · rw [if_neg h2, if_neg z8, if_neg z8, if_neg z8, if_neg (fun h => h2 h.2)]; rfl
  · rw [if_neg z8, if_neg z8, if_neg z8, if_neg z8, if_neg (fun h => h1 h.1)]; rfl
theorem zG {xs : List Ah} {ts : List TA} (x : Ah) (v : TA) (h : ts.length = xs.length) : tI (List.zip xs ts) (x, v) = List.zip (St xs x) (bS xs ts x v) := by rw [P2, lD xs ts x v h]
section
variable {B : Am} {α β : Type} [Inhabited α] [Inhabited β] {D : World → α → β → Prop} {xs : List α} {ts : List β}
theorem Dr.cons_iff {x : α} {v : β} : Dr B D (x :: xs) (v :: ts) ↔ (∀ w : World, (∀ p ∈ B, w.heap[p.1]? = some p.2) → D w x v) ∧ Dr B D xs ts := by
  constructor
  · rintro ⟨h1, h2⟩
    refine ⟨fun w hw => h2 w hw 0 Hs, by simpa using h1, fun w hw i hi => ?_⟩
    have := h2 w hw (i + 1) (by simp; omega)
    simpa using this
  · rintro ⟨h1, h2, h3⟩
    refine ⟨by simp [h2], fun w hw i hi => ?_⟩
    cases i with
    | zero => simpa using h1 w hw
    | succ i => simpa using h3 w hw i (by simpa using hi)
end
theorem Dr.put {B : Am} {D : World → Ah → TA → Prop} : ∀ {xs : List Ah} {ts : List TA} {x : Ah} {v : TA}, Dr B D xs ts → Dr B D [x] [v] → Dr B D (St xs x) (bS xs ts x v)
  | [], ts, x, v, h, h1 => by
    have : ts = [] := List.length_eq_zero_iff.1 h.1
    subst this; exact h1
  | t :: r, [], x, v, h, h1 => by have := h.1; simp at this
  | t :: r, u :: us, x, v, h, h1 => by
    obtain ⟨h2, h3⟩ := Dr.cons_iff.1 h
    simp only [St, bS]
    split
    · exact Dr.cons_iff.2 ⟨h2, h3.put h1⟩
    · split
      · exact Dr.cons_iff.2 ⟨(Dr.cons_iff.1 h1).1, h3⟩
      · exact Dr.cons_iff.2 ⟨(Dr.cons_iff.1 h1).1, h⟩
end Go.Proofs.YtdnjanhdnibkfaaGreatDoor.Jd

namespace Go.Proofs.YtdnjanhdnibkfaaGreatDoor.Jd
open Go.Proofs.Tryz
open Go.Proofs
open Go.RowKit (Below)
set_option maxRecDepth 100000
set_option maxHeartbeats 8000000
set_option linter.unusedVariables false
set_option linter.unusedSimpArgs false
structure Frame where
  kind : Int
  stream : Int
  data : Ai
instance : Inhabited Frame := ⟨⟨default, default, default⟩⟩
instance : DecidableEq Frame := fun a b => decidable_of_iff (a.kind = b.kind ∧ a.stream = b.stream ∧ a.data = b.data) ⟨fun h => by cases a; cases b; simp_all, fun h => by subst h; simp⟩
structure Session where
  phase : Int
  name : Ai
  handle : Handle
  a : Int
  b : Int
  opn : List Int
instance : Inhabited Session := ⟨⟨default, default, default, default, default, default⟩⟩
instance : DecidableEq Session := fun a b => decidable_of_iff (a.phase = b.phase ∧ a.name = b.name ∧ a.handle = b.handle ∧ a.a = b.a ∧ a.b = b.b ∧ a.opn = b.opn) ⟨fun h => by cases a; cases b; simp_all, fun h => by subst h; simp⟩
structure Act where
  kind : Int
  stream : Int
  data : Ai
  n : Int
  target : Bp
instance : Inhabited Act := ⟨⟨default, default, default, default, default⟩⟩
instance : DecidableEq Act := fun a b => decidable_of_iff (a.kind = b.kind ∧ a.stream = b.stream ∧ a.data = b.data ∧ a.n = b.n ∧ a.target = b.target) ⟨fun h => by cases a; cases b; simp_all, fun h => by subst h; simp⟩
def Gc (f : Frame) : Bool := (dA (if f.kind = 1 then (true, 1, 64) else (if f.kind = 2 then (true, 32, 32) else (if f.kind = 3 then (true, 1, 64) else (if f.kind = 4 then (true, 1, 512) else (if f.kind = 5 then (true, 2, 2) else (if f.kind = 6 then (true, 0, 0) else (if f.kind = 7 then (true, 0, 0) else (if f.kind = 8 then (true, 0, 8) else (false, 0, 0))))))))) (fun ok_1 x_2 x_3 => (if ¬ (f.kind = 0 ∧ f.stream = 0 ∧ f.data = ([] : Ai)) then (if ok_1 = true then (if ((x_2 : Nat) : Int) ≤ ((f.data.length : Nat) : Int) then (if ((f.data.length : Nat) : Int) ≤ ((x_3 : Nat) : Int) then (if 0 ≤ f.stream then (if f.stream ≤ 65535 then (if f.kind = 1 then (true == decide (f.stream = 0)) else (if f.kind = 2 then (true == decide (f.stream = 0)) else (decide (f.kind = 8) == decide (f.stream = 0)))) else false) else false) else false) else false) else false) else false)))
def zH (s : Ai) : Int := (if ((s.length : Nat) : Int) ≠ 2 then 0 else (((((s.getD 0 default).toNat : Nat) : Int) * 256) + (((s.getD 1 default).toNat : Nat) : Int)))
def Kf (n_ : Int) : Ai × Int := (if n_ < 0 then (([] : Ai), 2) else (if 65535 < n_ then (([] : Ai), 2) else ((Md ([(IntKind.u8.wrap (n_ / 256)), (IntKind.u8.wrap (n_ % 256))] : List Int)), 0)))
def Cv (a : Int) (b : Int) : Session × Int := (if a < 0 then ((Session.mk 0 ([] : Ai) (Handle.mk 0 0) 0 0 ([])), 180) else (if 2147483647 < a then ((Session.mk 0 ([] : Ai) (Handle.mk 0 0) 0 0 ([])), 180) else (if b < 0 then ((Session.mk 0 ([] : Ai) (Handle.mk 0 0) 0 0 ([])), 180) else (if 2147483647 < b then ((Session.mk 0 ([] : Ai) (Handle.mk 0 0) 0 0 ([])), 180) else ((Session.mk 0 ([] : Ai) (Handle.mk 0 0) a b ([])), 0)))))
def Dq (l : List Int) : Nat → Nat → Int → Except Bool (Nat × Int)
  | 0, x_1, x_2 => .ok (x_1, x_2)
  | n_3 + 1, x_1, x_2 => (if ((x_1 : Nat) : Int) < ((l.length : Nat) : Int) then (if (l.getD x_1 default) ≤ x_2 then .error false else (Dq l n_3 (x_1 + 1) (l.getD x_1 default))) else .ok (x_1, x_2))
def Ds (l : List Int) : Bool := (Ho (Dq l (l.length + 1) 0 0) (fun r => r) (fun x_1 x_2 => (if x_2 ≤ 65535 then decide (((l.length : Nat) : Int) ≤ 8) else false)))
def Gd (s : Session) : Bool := (dA (if s.phase = 0 then (true, false, false) else (if s.phase = 1 then (true, true, false) else (if s.phase = 2 then (true, true, true) else (if s.phase = 3 then (true, false, false) else (false, false, false))))) (fun ok_1 x_2 x_3 => (if ((s.name.length : Nat) : Int) ≤ 64 then (if s.handle.slot = 0 ∧ s.handle.gen = 0 then (if ok_1 = true then (if s.a < 0 then false else (if 2147483647 < s.a then false else (if s.b < 0 then false else (if 2147483647 < s.b then false else (if (decide (s.name ≠ ([] : Ai)) == x_2) = true then (if x_3 = true then (Ds s.opn) else (if ((s.opn.length : Nat) : Int) = 0 then (Ds s.opn) else false)) else false))))) else false) else (if ok_1 = true then (if s.a < 0 then false else (if 2147483647 < s.a then false else (if s.b < 0 then false else (if 2147483647 < s.b then false else (if (decide (s.name ≠ ([] : Ai)) == x_2) = true then (if x_3 = true then (Ds s.opn) else false) else false))))) else false)) else (if s.handle.slot = 0 ∧ s.handle.gen = 0 then (if ok_1 = true then (if s.a < 0 then false else (if 2147483647 < s.a then false else (if s.b < 0 then false else (if 2147483647 < s.b then false else false)))) else false) else (if ok_1 = true then (if s.a < 0 then false else (if 2147483647 < s.a then false else (if s.b < 0 then false else (if 2147483647 < s.b then false else false)))) else false)))))
def Ou (s : Session) (stream : Int) : Nat → Nat → Except Bool Nat
  | 0, x_1 => .ok x_1
  | n_2 + 1, x_1 => (if ((x_1 : Nat) : Int) < ((s.opn.length : Nat) : Int) then (if (s.opn.getD x_1 default) = stream then .error true else (Ou s stream n_2 (x_1 + 1))) else .ok x_1)
def Gk (s : Session) (stream : Int) : Bool := (Fg (Ou s stream (s.opn.length + 1) 0) (fun r => r) (fun x_1 => false))
end Go.Proofs.YtdnjanhdnibkfaaGreatDoor.Jd

namespace Go.Proofs.YtdnjanhdnibkfaaGreatDoor.Jd
open Go.Proofs.Tryz
open Go.Proofs
open Go.RowKit (Below)
set_option maxRecDepth 100000
set_option maxHeartbeats 8000000
set_option linter.unusedVariables false
set_option linter.unusedSimpArgs false
def Gu (x : List Int) (target : Int) : Nat → Nat → Nat → Nat × Nat
  | 0, i_1, j_2 => (i_1, j_2)
  | n_3 + 1, i_1, j_2 => (if ((i_1 : Nat) : Int) < ((j_2 : Nat) : Int) then (if (x.getD ((i_1 + j_2) / 2) default) ≠ (x.getD ((i_1 + j_2) / 2) default) then default else (if (x.getD ((i_1 + j_2) / 2) default) < target then (Gu x target n_3 (((i_1 + j_2) / 2) + 1) j_2) else (Gu x target n_3 i_1 ((i_1 + j_2) / 2)))) else (i_1, j_2))
def Hy (x : List Int) (target : Int) : Int × Bool := (Iw (Gu x target (x.length + 1) 0 x.length) (fun i_1 j_2 => (if ((i_1 : Nat) : Int) < ((x.length : Nat) : Int) then (if (x.getD i_1 default) = target then (((i_1 : Nat) : Int), true) else (if (x.getD i_1 default) ≠ (x.getD i_1 default) then default else (((i_1 : Nat) : Int), false))) else (((i_1 : Nat) : Int), false))))
def Ga (s : Session) (stream : Int) (x_1 : Nat) : Nat → List Int → Nat → Nat → (List Int) × Nat × Nat
  | 0, s_6, i_7, j_8 => (s_6, i_7, j_8)
  | n_9 + 1, s_6, i_7, j_8 => (if ((j_8 : Nat) : Int) < ((s_6.length : Nat) : Int) then (if ¬ ((s_6.getD j_8 default) = stream) then (Ga s stream x_1 n_9 (s_6.set i_7 (s_6.getD j_8 default)) (i_7 + 1) (j_8 + 1)) else (Ga s stream x_1 n_9 s_6 i_7 (j_8 + 1))) else (s_6, i_7, j_8))
def Im (s : Session) (stream : Int) : Nat → Nat → Except (Session × Int) Nat
  | 0, x_1 => .ok x_1
  | n_2 + 1, x_1 => (if ((x_1 : Nat) : Int) < ((s.opn.length : Nat) : Int) then (if (s.opn.getD x_1 default) = stream then .error (if ((x_1 : Nat) : Int) = (-1) then (s, 0) else (dA (Ga s stream x_1 (s.opn.length - (x_1 + 1) + 1) s.opn x_1 (x_1 + 1)) (fun s_6 i_7 j_8 => ((Session.mk s.phase s.name s.handle s.a s.b ((s_6.take i_7).take i_7)), 0)))) else (Im s stream n_2 (x_1 + 1))) else .ok x_1)
def De (s : Session) (stream : Int) : Session × Int := (if (!(Gd s)) = true then ((Session.mk 0 ([] : Ai) (Handle.mk 0 0) 0 0 ([])), 180) else (if (!(Gk s stream)) = true then ((Session.mk 0 ([] : Ai) (Handle.mk 0 0) 0 0 ([])), 181) else (Fg (Im s stream (s.opn.length + 1) 0) (fun r => r) (fun x_1 => (s, 0)))))
end Go.Proofs.YtdnjanhdnibkfaaGreatDoor.Jd

namespace Go.Proofs.YtdnjanhdnibkfaaGreatDoor.Jd
open Go.Proofs.Tryz
open Go.Proofs
open Go.RowKit (Below)
set_option maxRecDepth 100000
set_option maxHeartbeats 8000000
set_option linter.unusedVariables false
set_option linter.unusedSimpArgs false
def Bg (s : Session) (f : Frame) (r : Bs) (now : Int) : Session × (List Frame) × Act × Int := (if (!(Gd s)) = true then ((Session.mk 0 ([] : Ai) (Handle.mk 0 0) 0 0 ([])), [], (Act.mk 0 0 ([] : Ai) 0 (Bp.mk 0 0)), 180) else (if (!(Gc f)) = true then ((Session.mk 0 ([] : Ai) (Handle.mk 0 0) 0 0 ([])), [], (Act.mk 0 0 ([] : Ai) 0 (Bp.mk 0 0)), 33) else (if s.phase = 3 then (s, [], (Act.mk 0 0 ([] : Ai) 0 (Bp.mk 0 0)), 0) else (if s.phase = 0 then (if f.kind = 8 then (s, ([(Frame.mk 8 f.stream f.data)] : List Frame), (Act.mk 0 0 ([] : Ai) 0 (Bp.mk 0 0)), 0) else (if f.kind = 1 then ((Session.mk 1 f.data s.handle s.a s.b s.opn), ([(Frame.mk 2 f.stream ((Ol s.a s.b).1))] : List Frame), (Act.mk 0 0 ([] : Ai) 0 (Bp.mk 0 0)), 0) else ((Session.mk 3 ([] : Ai) (Handle.mk 0 0) s.a s.b ([])), [], (Act.mk 6 0 ([] : Ai) 0 (Bp.mk 0 0)), 0))) else (if s.phase = 1 then (if f.kind = 8 then (s, ([(Frame.mk 8 f.stream f.data)] : List Frame), (Act.mk 0 0 ([] : Ai) 0 (Bp.mk 0 0)), 0) else (if f.kind = 2 then (Iw (((Ct r s.name).1.rules), ((Ct r s.name).1.creds)) (fun x_1 x_2 => (if ((Ct r s.name).2) = true then (if ((Ct r s.name).1.state) = 1 then (if s.phase ≠ 2 then (if (!((Wr x_2 now ((Ol s.a s.b).1) s.name f.data).2)) = true then ((Session.mk 3 ([] : Ai) (Handle.mk 0 0) s.a s.b ([])), [], (Act.mk 6 0 ([] : Ai) 0 (Bp.mk 0 0)), 0) else ((Session.mk 2 s.name ((Ct r s.name).1.handle) s.a s.b s.opn), ([(Frame.mk 1 f.stream s.name)] : List Frame), (Act.mk 7 0 ([] : Ai) 0 (Bp.mk 0 0)), 0)) else (if ¬ (((Ct r s.name).1.handle.slot) = s.handle.slot ∧ ((Ct r s.name).1.handle.gen) = s.handle.gen) then ((Session.mk 3 ([] : Ai) (Handle.mk 0 0) s.a s.b ([])), [], (Act.mk 6 0 ([] : Ai) 0 (Bp.mk 0 0)), 0) else (if (!((Wr x_2 now ((Ol s.a s.b).1) s.name f.data).2)) = true then ((Session.mk 3 ([] : Ai) (Handle.mk 0 0) s.a s.b ([])), [], (Act.mk 6 0 ([] : Ai) 0 (Bp.mk 0 0)), 0) else ((Session.mk 2 s.name ((Ct r s.name).1.handle) s.a s.b s.opn), ([(Frame.mk 1 f.stream s.name)] : List Frame), (Act.mk 7 0 ([] : Ai) 0 (Bp.mk 0 0)), 0)))) else ((Session.mk 3 ([] : Ai) (Handle.mk 0 0) s.a s.b ([])), [], (Act.mk 6 0 ([] : Ai) 0 (Bp.mk 0 0)), 0)) else ((Session.mk 3 ([] : Ai) (Handle.mk 0 0) s.a s.b ([])), [], (Act.mk 6 0 ([] : Ai) 0 (Bp.mk 0 0)), 0)))) else ((Session.mk 3 ([] : Ai) (Handle.mk 0 0) s.a s.b ([])), [], (Act.mk 6 0 ([] : Ai) 0 (Bp.mk 0 0)), 0))) else (if f.kind = 8 then (s, ([(Frame.mk 8 f.stream f.data)] : List Frame), (Act.mk 0 0 ([] : Ai) 0 (Bp.mk 0 0)), 0) else (if f.kind = 3 then (if (Gk s f.stream) = true then ((Session.mk 3 ([] : Ai) (Handle.mk 0 0) s.a s.b ([])), [], (Act.mk 6 0 ([] : Ai) 0 (Bp.mk 0 0)), 0) else (Iw (((Ct r s.name).1.rules), ((Ct r s.name).1.creds)) (fun x_6 x_7 => (if ((Ct r s.name).2) = true then (if ((Ct r s.name).1.state) = 1 then (if s.phase ≠ 2 then (if ¬ (((Cw f.data).2) = 0) then (s, ([(Frame.mk 7 f.stream ([] : Ai))] : List Frame), (Act.mk 0 0 ([] : Ai) 0 (Bp.mk 0 0)), 0) else (if ((Ey x_6 ((Cw f.data).1)).1) = true then (if ¬ (((Ey x_6 ((Cw f.data).1)).2.2) = 0) then (s, ([(Frame.mk 7 f.stream ([] : Ai))] : List Frame), (Act.mk 0 0 ([] : Ai) 0 (Bp.mk 0 0)), 0) else (if ¬ (((s.opn.length : Nat) : Int) < 8) then (s, ([(Frame.mk 7 f.stream ([] : Ai))] : List Frame), (Act.mk 0 0 ([] : Ai) 0 (Bp.mk 0 0)), 0) else ((Session.mk s.phase s.name s.handle s.a s.b (Nx s.opn ((Hy s.opn f.stream).1).toNat f.stream)), ([(Frame.mk 5 f.stream ((Kf 4096).1))] : List Frame), (Act.mk 1 f.stream ([] : Ai) 0 ((Cw f.data).1)), 0))) else (s, ([(Frame.mk 7 f.stream ([] : Ai))] : List Frame), (Act.mk 0 0 ([] : Ai) 0 (Bp.mk 0 0)), 0))) else (if ((Ct r s.name).1.handle.slot) = s.handle.slot ∧ ((Ct r s.name).1.handle.gen) = s.handle.gen then (if ¬ (((Cw f.data).2) = 0) then (s, ([(Frame.mk 7 f.stream ([] : Ai))] : List Frame), (Act.mk 0 0 ([] : Ai) 0 (Bp.mk 0 0)), 0) else (if ((Ey x_6 ((Cw f.data).1)).1) = true then (if ¬ (((Ey x_6 ((Cw f.data).1)).2.2) = 0) then (s, ([(Frame.mk 7 f.stream ([] : Ai))] : List Frame), (Act.mk 0 0 ([] : Ai) 0 (Bp.mk 0 0)), 0) else (if ¬ (((s.opn.length : Nat) : Int) < 8) then (s, ([(Frame.mk 7 f.stream ([] : Ai))] : List Frame), (Act.mk 0 0 ([] : Ai) 0 (Bp.mk 0 0)), 0) else ((Session.mk s.phase s.name s.handle s.a s.b (Nx s.opn ((Hy s.opn f.stream).1).toNat f.stream)), ([(Frame.mk 5 f.stream ((Kf 4096).1))] : List Frame), (Act.mk 1 f.stream ([] : Ai) 0 ((Cw f.data).1)), 0))) else (s, ([(Frame.mk 7 f.stream ([] : Ai))] : List Frame), (Act.mk 0 0 ([] : Ai) 0 (Bp.mk 0 0)), 0))) else (s, ([(Frame.mk 7 f.stream ([] : Ai))] : List Frame), (Act.mk 0 0 ([] : Ai) 0 (Bp.mk 0 0)), 0))) else (s, ([(Frame.mk 7 f.stream ([] : Ai))] : List Frame), (Act.mk 0 0 ([] : Ai) 0 (Bp.mk 0 0)), 0)) else (s, ([(Frame.mk 7 f.stream ([] : Ai))] : List Frame), (Act.mk 0 0 ([] : Ai) 0 (Bp.mk 0 0)), 0))))) else (if f.kind = 4 then (if (!(Gk s f.stream)) = true then (s, ([(Frame.mk 7 f.stream ([] : Ai))] : List Frame), (Act.mk 0 0 ([] : Ai) 0 (Bp.mk 0 0)), 0) else (s, [], (Act.mk 2 f.stream f.data 0 (Bp.mk 0 0)), 0)) else (if f.kind = 5 then (if (!(Gk s f.stream)) = true then (s, ([(Frame.mk 7 f.stream ([] : Ai))] : List Frame), (Act.mk 0 0 ([] : Ai) 0 (Bp.mk 0 0)), 0) else (s, [], (Act.mk 3 f.stream ([] : Ai) (zH f.data) (Bp.mk 0 0)), 0)) else (if f.kind = 6 then (if (!(Gk s f.stream)) = true then (s, ([(Frame.mk 7 f.stream ([] : Ai))] : List Frame), (Act.mk 0 0 ([] : Ai) 0 (Bp.mk 0 0)), 0) else (s, [], (Act.mk 4 f.stream ([] : Ai) 0 (Bp.mk 0 0)), 0)) else (if f.kind = 7 then (if ((De s f.stream).2) = 0 then ((De s f.stream).1, [], (Act.mk 5 f.stream ([] : Ai) 0 (Bp.mk 0 0)), 0) else (s, [], (Act.mk 0 0 ([] : Ai) 0 (Bp.mk 0 0)), 0)) else ((Session.mk 3 ([] : Ai) (Handle.mk 0 0) s.a s.b ([])), [], (Act.mk 6 0 ([] : Ai) 0 (Bp.mk 0 0)), 0))))))))))))
end Go.Proofs.YtdnjanhdnibkfaaGreatDoor.Jd

namespace Go.Proofs.YtdnjanhdnibkfaaGreatDoor.Jd
open Go.Proofs.Tryz
open Go.Proofs
open Go.RowKit (Below)
set_option maxRecDepth 100000
set_option maxHeartbeats 8000000
set_option linter.unusedVariables false
set_option linter.unusedSimpArgs false
def Le  : (List En) × Int × Int := (if (!(Mh ([]))) = true then default else (if (!(Rh ([107] : Ai))) = true then default else (if (!(Vd 0 0 1000000000000)) = true then default else (if (!(Vd 0 0 1000000000)) = true then default else (if (!(Vd 100 1 1000000000)) = true then default else (if 4 < (((([(En.mk 1 ([107] : Ai) 0 100)] : List En).length) : Nat) : Int) then default else (([(En.mk 1 ([107] : Ai) 0 100)] : List En), 1, 0)))))))
def Ax (r : Bs) : Bs × pN := (if (!(Tq r)) = true then default else (if 1000000000000 ≤ r.seq then default else (if (!(dZ 3 1)) = true then default else (if (!(Pu ([97, 99, 109, 101] : Ai))) = true then default else (if ((Hj (Bs.mk r.slots r.l (r.seq + 1)) ([97, 99, 109, 101] : Ai)).2) = true then default else (if ((Fk r.slots).2.2) ≠ 0 then default else (if Le.2.2 ≠ 0 then default else (wX () ((Bs.mk ((Fk r.slots).1) (St r.l (Ah.mk ((Fk r.slots).2.1) ([97, 99, 109, 101] : Ai) 1 1 ([]) Le.1 0)) (r.seq + 1)), (pN.mk 0 (r.seq + 1) ((Fk r.slots).2.1) 1 1))))))))))
end Go.Proofs.YtdnjanhdnibkfaaGreatDoor.Jd

namespace Go.Proofs.YtdnjanhdnibkfaaGreatDoor.Jd
open Go.Proofs.Tryz
open Go.Proofs
open Go.RowKit (Below)
set_option maxRecDepth 100000
set_option maxHeartbeats 8000000
set_option linter.unusedVariables false
set_option linter.unusedSimpArgs false
def Ee (s : Session) : Session := (Session.mk s.phase (s.name.take (min s.name.length 65)) s.handle s.a s.b (s.opn.take (min s.opn.length 10)))
def Vr  : Bool := (if ((Cd 2).2) ≠ 0 then false else (if ((Cv 1 2).2) ≠ 0 then false else (if ((Bg ((Cv 1 2).1) (Frame.mk 1 0 ([97, 99, 109, 101] : Ai)) ((Ax ((Cd 2).1)).1) 5).2.2.2) ≠ 0 then false else (if ((((Bg ((Cv 1 2).1) (Frame.mk 1 0 ([97, 99, 109, 101] : Ai)) ((Ax ((Cd 2).1)).1) 5).2.1.length) : Nat) : Int) ≠ 1 then false else (if ((Hz ([107] : Ai) ((((Bg ((Cv 1 2).1) (Frame.mk 1 0 ([97, 99, 109, 101] : Ai)) ((Ax ((Cd 2).1)).1) 5).2.1).getD 0 default).data) ([97, 99, 109, 101] : Ai)).2) = 0 then (if ((Bg ((Bg ((Cv 1 2).1) (Frame.mk 1 0 ([97, 99, 109, 101] : Ai)) ((Ax ((Cd 2).1)).1) 5).1) (Frame.mk 2 0 ((Hz ([107] : Ai) ((((Bg ((Cv 1 2).1) (Frame.mk 1 0 ([97, 99, 109, 101] : Ai)) ((Ax ((Cd 2).1)).1) 5).2.1).getD 0 default).data) ([97, 99, 109, 101] : Ai)).1)) ((Ax ((Cd 2).1)).1) 5).2.2.2) = 0 then (if ((Bg ((Bg ((Cv 1 2).1) (Frame.mk 1 0 ([97, 99, 109, 101] : Ai)) ((Ax ((Cd 2).1)).1) 5).1) (Frame.mk 2 0 ((Hz ([107] : Ai) ((((Bg ((Cv 1 2).1) (Frame.mk 1 0 ([97, 99, 109, 101] : Ai)) ((Ax ((Cd 2).1)).1) 5).2.1).getD 0 default).data) ([97, 99, 109, 101] : Ai)).1)) ((Ax ((Cd 2).1)).1) 5).2.2.1.kind) = 7 then (if ((((Bg ((Bg ((Cv 1 2).1) (Frame.mk 1 0 ([97, 99, 109, 101] : Ai)) ((Ax ((Cd 2).1)).1) 5).1) (Frame.mk 2 0 ((Hz ([107] : Ai) ((((Bg ((Cv 1 2).1) (Frame.mk 1 0 ([97, 99, 109, 101] : Ai)) ((Ax ((Cd 2).1)).1) 5).2.1).getD 0 default).data) ([97, 99, 109, 101] : Ai)).1)) ((Ax ((Cd 2).1)).1) 5).2.1.length) : Nat) : Int) = 1 then (if ((((Bg ((Bg ((Cv 1 2).1) (Frame.mk 1 0 ([97, 99, 109, 101] : Ai)) ((Ax ((Cd 2).1)).1) 5).1) (Frame.mk 2 0 ((Hz ([107] : Ai) ((((Bg ((Cv 1 2).1) (Frame.mk 1 0 ([97, 99, 109, 101] : Ai)) ((Ax ((Cd 2).1)).1) 5).2.1).getD 0 default).data) ([97, 99, 109, 101] : Ai)).1)) ((Ax ((Cd 2).1)).1) 5).2.1).getD 0 default).kind) = 1 ∧ ((((Bg ((Bg ((Cv 1 2).1) (Frame.mk 1 0 ([97, 99, 109, 101] : Ai)) ((Ax ((Cd 2).1)).1) 5).1) (Frame.mk 2 0 ((Hz ([107] : Ai) ((((Bg ((Cv 1 2).1) (Frame.mk 1 0 ([97, 99, 109, 101] : Ai)) ((Ax ((Cd 2).1)).1) 5).2.1).getD 0 default).data) ([97, 99, 109, 101] : Ai)).1)) ((Ax ((Cd 2).1)).1) 5).2.1).getD 0 default).stream) = 0 ∧ ((((Bg ((Bg ((Cv 1 2).1) (Frame.mk 1 0 ([97, 99, 109, 101] : Ai)) ((Ax ((Cd 2).1)).1) 5).1) (Frame.mk 2 0 ((Hz ([107] : Ai) ((((Bg ((Cv 1 2).1) (Frame.mk 1 0 ([97, 99, 109, 101] : Ai)) ((Ax ((Cd 2).1)).1) 5).2.1).getD 0 default).data) ([97, 99, 109, 101] : Ai)).1)) ((Ax ((Cd 2).1)).1) 5).2.1).getD 0 default).data) = ([97, 99, 109, 101] : Ai) then (if ((Bg ((Bg ((Cv 1 2).1) (Frame.mk 1 0 ([97, 99, 109, 101] : Ai)) ((Ax ((Cd 2).1)).1) 5).1) (Frame.mk 2 0 ((Hz ([107] : Ai) ((((Bg ((Cv 1 2).1) (Frame.mk 1 0 ([97, 99, 109, 101] : Ai)) ((Ax ((Cd 2).1)).1) 5).2.1).getD 0 default).data) ([97, 99, 109, 101] : Ai)).1)) ((Ax ((Cd 2).1)).1) 5).1.phase) = 2 then (if ((Bg ((Bg ((Bg ((Cv 1 2).1) (Frame.mk 1 0 ([97, 99, 109, 101] : Ai)) ((Ax ((Cd 2).1)).1) 5).1) (Frame.mk 2 0 ((Hz ([107] : Ai) ((((Bg ((Cv 1 2).1) (Frame.mk 1 0 ([97, 99, 109, 101] : Ai)) ((Ax ((Cd 2).1)).1) 5).2.1).getD 0 default).data) ([97, 99, 109, 101] : Ai)).1)) ((Ax ((Cd 2).1)).1) 5).1) (Frame.mk 3 1 ([49, 46, 50, 46, 51, 46, 52, 58, 56, 48] : Ai)) ((Ax ((Cd 2).1)).1) 5).2.2.2) = 0 then (if ((((Bg ((Bg ((Bg ((Cv 1 2).1) (Frame.mk 1 0 ([97, 99, 109, 101] : Ai)) ((Ax ((Cd 2).1)).1) 5).1) (Frame.mk 2 0 ((Hz ([107] : Ai) ((((Bg ((Cv 1 2).1) (Frame.mk 1 0 ([97, 99, 109, 101] : Ai)) ((Ax ((Cd 2).1)).1) 5).2.1).getD 0 default).data) ([97, 99, 109, 101] : Ai)).1)) ((Ax ((Cd 2).1)).1) 5).1) (Frame.mk 3 1 ([49, 46, 50, 46, 51, 46, 52, 58, 56, 48] : Ai)) ((Ax ((Cd 2).1)).1) 5).2.1.length) : Nat) : Int) = 1 then (if ((((Bg ((Bg ((Bg ((Cv 1 2).1) (Frame.mk 1 0 ([97, 99, 109, 101] : Ai)) ((Ax ((Cd 2).1)).1) 5).1) (Frame.mk 2 0 ((Hz ([107] : Ai) ((((Bg ((Cv 1 2).1) (Frame.mk 1 0 ([97, 99, 109, 101] : Ai)) ((Ax ((Cd 2).1)).1) 5).2.1).getD 0 default).data) ([97, 99, 109, 101] : Ai)).1)) ((Ax ((Cd 2).1)).1) 5).1) (Frame.mk 3 1 ([49, 46, 50, 46, 51, 46, 52, 58, 56, 48] : Ai)) ((Ax ((Cd 2).1)).1) 5).2.1).getD 0 default).kind) = 7 then (if ((Bg ((Bg ((Bg ((Cv 1 2).1) (Frame.mk 1 0 ([97, 99, 109, 101] : Ai)) ((Ax ((Cd 2).1)).1) 5).1) (Frame.mk 2 0 ((Hz ([107] : Ai) ((((Bg ((Cv 1 2).1) (Frame.mk 1 0 ([97, 99, 109, 101] : Ai)) ((Ax ((Cd 2).1)).1) 5).2.1).getD 0 default).data) ([97, 99, 109, 101] : Ai)).1)) ((Ax ((Cd 2).1)).1) 5).1) (Frame.mk 2 0 ((Hz ([107] : Ai) ((((Bg ((Cv 1 2).1) (Frame.mk 1 0 ([97, 99, 109, 101] : Ai)) ((Ax ((Cd 2).1)).1) 5).2.1).getD 0 default).data) ([97, 99, 109, 101] : Ai)).1)) ((Ax ((Cd 2).1)).1) 5).2.2.2) = 0 then (if ((Bg ((Bg ((Bg ((Cv 1 2).1) (Frame.mk 1 0 ([97, 99, 109, 101] : Ai)) ((Ax ((Cd 2).1)).1) 5).1) (Frame.mk 2 0 ((Hz ([107] : Ai) ((((Bg ((Cv 1 2).1) (Frame.mk 1 0 ([97, 99, 109, 101] : Ai)) ((Ax ((Cd 2).1)).1) 5).2.1).getD 0 default).data) ([97, 99, 109, 101] : Ai)).1)) ((Ax ((Cd 2).1)).1) 5).1) (Frame.mk 2 0 ((Hz ([107] : Ai) ((((Bg ((Cv 1 2).1) (Frame.mk 1 0 ([97, 99, 109, 101] : Ai)) ((Ax ((Cd 2).1)).1) 5).2.1).getD 0 default).data) ([97, 99, 109, 101] : Ai)).1)) ((Ax ((Cd 2).1)).1) 5).2.2.1.kind) = 6 then decide (((Bg ((Bg ((Bg ((Cv 1 2).1) (Frame.mk 1 0 ([97, 99, 109, 101] : Ai)) ((Ax ((Cd 2).1)).1) 5).1) (Frame.mk 2 0 ((Hz ([107] : Ai) ((((Bg ((Cv 1 2).1) (Frame.mk 1 0 ([97, 99, 109, 101] : Ai)) ((Ax ((Cd 2).1)).1) 5).2.1).getD 0 default).data) ([97, 99, 109, 101] : Ai)).1)) ((Ax ((Cd 2).1)).1) 5).1) (Frame.mk 2 0 ((Hz ([107] : Ai) ((((Bg ((Cv 1 2).1) (Frame.mk 1 0 ([97, 99, 109, 101] : Ai)) ((Ax ((Cd 2).1)).1) 5).2.1).getD 0 default).data) ([97, 99, 109, 101] : Ai)).1)) ((Ax ((Cd 2).1)).1) 5).1.phase) = 3) else false) else false) else false) else false) else false) else false) else false) else false) else false) else false) else false)))))
end Go.Proofs.YtdnjanhdnibkfaaGreatDoor.Jd

namespace Go.Proofs.YtdnjanhdnibkfaaGreatDoor.Jd
open Go.Proofs.Tryz
open Go.Proofs
open Go.RowKit (Below)
set_option maxRecDepth 100000
set_option maxHeartbeats 8000000
set_option linter.unusedVariables false
set_option linter.unusedSimpArgs false
theorem U2 : Ej Tryz.prog 34 [(0, 3), (3, 1), (4, 1)] := ⟨_, fun w => runUnderlying34 w, fun w => by simp⟩
theorem U3 : Ej Tryz.prog 50 [(0, 2), (2, 1), (3, 1), (4, 1), (5, 1), (6, 1), (7, 1)] := ⟨_, fun w => runUnderlying50 w, fun w => by simp⟩
theorem Ip : Ty Tryz.prog 50 8 104 (Value.agg [(vi 0), (vi 0), (vt ([] : Ai)), (vi 0), (vi 0), (vs none 0 0), (vs none 0 0), (vi 0)].toArray) := ⟨⟨Tryz.t50, by kernel_rfl, rfl, rfl, rfl⟩, rfl⟩
theorem lE (w : World) {t_1_rules_a : Option Addr} {t_1_rules_c : Nat} {t_1_creds_a : Option Addr} {t_1_creds_c : Nat} {t : (Ah × Int)} (h_t_1_rules : Sl w Nk 5 t_1_rules_a t.1.rules) (n_t_1_rules : t.1.rules.length ≤ 1000) (h_t_1_creds : Sl w Jh 4 t_1_creds_a t.1.creds) (n_t_1_creds : t.1.creds.length ≤ 1000) : Calls Tryz.prog 42 (List.toArray [(Value.agg [(vi t.1.handle.slot), (vi t.1.handle.gen), (vt t.1.name), (vi t.1.state), (vi t.1.version), (vs t_1_rules_a t.1.rules.length t_1_rules_c), (vs t_1_creds_a t.1.creds.length t_1_creds_c), (vi t.1.deadline), (vi t.2)].toArray)]) w fun e w2 => ∃ a1 : Option Addr, ∃ c1 : Nat, ∃ a2 : Option Addr, ∃ c2 : Nat, ∃ B1 : Am, ∃ B2 : Am, e = .returned (Value.agg [(vi t.1.handle.slot), (vi t.1.handle.gen), (vt t.1.name), (vi t.1.state), (vi t.1.version), (vs a1 t.1.rules.length c1), (vs a2 t.1.creds.length c2), (vi t.1.deadline)].toArray) ∧ Dz w w2 (B1 ++ B2) ∧ Bi Nk 5 84 a1 c1 B1 t.1.rules ∧ Bi Jh 4 112 a2 c2 B2 t.1.creds := by
 have hF := Is.refl t.1
 refine enter func42 ntmps42 (h := ?_)
 refine Z2 ?_
 refine Aj Ae z93 (k := fun r1 hr1 => ?_)
 refine Aj Ae Zl (k := fun r2 hr2 => ?_)
 refine Jk ?_
 refine Dw mixed 10 [(true, 0), (true, 1), (true, 2), (true, 4), (true, 5), (true, 6), (false, 3), (true, 8), (true, 9), (false, 7)] z6 ?_
 refine Ay (Al Ml) (k := ?_)
 refine Ay (Al Vq) (k := ?_)
 refine Ay (Bb isAgg47) (k := ?_)
 refine Ay (Al Ml) (k := ?_)
 refine vK ?_
 refine jU (Aa call91) (fun w1 hw1 => oI w1 (s := t.1.rules) (h_s := (Ch.of_base h_t_1_rules) w1 hw1) (n_s := Nm)) (k := ?_)
 rintro w1_1 e1_1 w2_1 hw1_1 ⟨a1_1, c1_1, B1_1, he_1, hf_1, ho1_1⟩
 refine ⟨_, _, _, he_1, hf_1, rfl, ?_⟩
 refine Ay (Al Ml) (k := ?_)
 refine Ay (Al Vq) (k := ?_)
 refine jU (Aa call92) (fun w1 hw1 => oK w1 (s := t.1.creds) (h_s := (Ch.of_base h_t_1_creds) w1 hw1) (n_s := Nm)) (k := ?_)
 rintro w1_2 e1_2 w2_2 hw1_2 ⟨a1_2, c1_2, B1_2, he_2, hf_2, ho1_2⟩
 refine ⟨_, _, _, he_2, hf_2, rfl, ?_⟩
 refine Lh ?_
 refine Eh (Bc (l' := [_, _, _, _, _, _, _, _, _]) sizeOf47) (k := ?_)
 refine mT ?_
 refine Ad (Al gX) (k := ?_)
 refine Eh (Bc (l' := [_, _, _, _, _, _, _, _, _]) sizeOf48) (k := ?_)
 refine Qn ?_
 refine mT ?_
 refine Ad S7 (k := ?_)
 refine jJ ?_
 refine eQ ?_
 refine Ac results42 (Bk.agg isAgg50 sizeOf50 rfl me rfl Bk.nil) (fun w1 hw1 => ?_)
 exact ⟨a1_1, c1_1, a1_2, c1_2, B1_1, B1_2, (rq hF), (Aq (L := (B1_1 ++ B1_2)) (hw1.perm (q0.trans (qd q0))) (nA rfl).symm), (by rw [hF.eq]; exact ho1_1), (by rw [hF.eq]; exact ho1_2)⟩

theorem P3 (w : World) {r_Sg_a : Option Addr} {r_Sg_c : Nat} {r_Su_a : Option Addr} {r_Su_c : Nat} {r_Sf_a : Option Addr} {r_Sf_c : Nat} {r_l_a : Option Addr} {r_l_c : Nat} {r_l_t : List TA} {r : Bs} (h_r_Sg : Sl w eI 1 r_Sg_a r.slots.gens) (n_r_Sg : r.slots.gens.length ≤ 1000) (h_r_Su : Sl w eB 1 r_Su_a r.slots.used) (n_r_Su : r.slots.used.length ≤ 1000) (h_r_Sf : Sl w eI 1 r_Sf_a r.slots.free) (n_r_Sf : r.slots.free.length ≤ 1000) (h_r_l : cG w Fo 8 DT r_l_a r.l r_l_t) (n_r_l : r.l.length ≤ 1000) (k_r_l : r.l.length ≤ r_l_c) (hsm : Gq r.l) : Calls Tryz.prog 74 (List.toArray [(Value.agg [(vs r_Sg_a r.slots.gens.length r_Sg_c), (vs r_Su_a r.slots.used.length r_Su_c), (vs r_Sf_a r.slots.free.length r_Sf_c), (vs r_l_a r.l.length r_l_c), (vi r.seq)].toArray)]) w fun e w2 => ∃ a1 : Option Addr, ∃ c1 : Nat, ∃ a2 : Option Addr, ∃ c2 : Nat, ∃ a3 : Option Addr, ∃ c3 : Nat, ∃ a4 : Option Addr, ∃ c4 : Nat, ∃ t4 : List TA, ∃ B : Am, e = .returned (Value.agg [(vs a1 ((Rs r).slots.gens.length) c1), (vs a2 ((Rs r).slots.used.length) c2), (vs a3 ((Rs r).slots.free.length) c3), (vs a4 ((Rs r).l.length) c4), (vi ((Rs r).seq))].toArray) ∧ Dz w w2 B ∧ Hb B eI 1 a1 (Rs r).slots.gens ∧ Hb B eB 1 a2 (Rs r).slots.used ∧ Hb B eI 1 a3 (Rs r).slots.free ∧ (Ko B Fo 8 DT a4 (Rs r).l t4 ∧ (Rs r).l.length ≤ c4) ∧ (Rs r).slots.gens.length ≤ 1000 ∧ (Rs r).slots.used.length ≤ 1000 ∧ (Rs r).slots.free.length ≤ 1000 ∧ (Rs r).l.length ≤ 1000 := by
 have hF := Is.refl (Rs r)
 refine Pi func74 ntmps74 (h := ?_)
 refine Z2 ?_
 refine Aj Ae oT (k := fun r1 hr1 => ?_)
 refine Aj Ae S4 (k := fun r2 hr2 => ?_)
 refine Qn ?_
 refine Aj Ae (Bz (l := [_]) zeroValue32) (k := fun r3 hr3 => ?_)
 refine Jk ?_
 refine AA5 ?_
 refine Z2 ?_
 refine Aj Ae oT (k := fun r4 hr4 => ?_)
 refine Uc ?_
 refine Av results90 z1 ?_
 refine Kt ?_
 refine Fc Ae rfl call147 func147 ntmps147 (fun l5 rD5 rr5 hl5 => ?_)
 refine Ye ?_
 refine vJ ?_
 refine sA ?_
 refine Lt ?_
 refine L3 (σ1 := Nat) (σ2 := Nat) (σ3 := List Ah) (σ4 := List TA) (σ5 := Option Addr) (σ6 := Nat) (σ7 := Am) (σ8 := Am) (fun n_3 x_1 x_2 x_2t x_2a x_2c x_2B x_2R => (x_2B ++ (x_2R ++ ((l5, Cb rr5 .ready none) :: ((rD5, Obj.deferred (some [])) :: ((r4, oc [(vs r_Sg_a r.slots.gens.length r_Sg_c), (vs r_Su_a r.slots.used.length r_Su_c), (vs r_Sf_a r.slots.free.length r_Sf_c), (vs r_l_a r.l.length r_l_c), (vi r.seq)] 34) :: ((r3, oc [(vs x_2a x_2.length x_2c)] 32) :: ((r2, oc [(vs none 0 0), (vs none 0 0), (vs none 0 0), (vs none 0 0), (vi 0)] 34) :: ((r1, oc [(vs r_Sg_a r.slots.gens.length r_Sg_c), (vs r_Su_a r.slots.used.length r_Su_c), (vs r_Sf_a r.slots.free.length r_Sf_c), (vs r_l_a r.l.length r_l_c), (vi r.seq)] 34) :: []))))))))) (fun n_3 x_1 x_2 x_2t x_2a x_2c x_2B x_2R => [(0, (Value.func (.yield l5) [].toArray [].toArray)), (1, (Value.pointer (some ⟨r4, 0, none⟩))), (6, (vs r_l_a r.l.length r_l_c)), (7, (vi ((r.l.length : Nat) : Int))), (8, (vi ((x_1 : Nat) : Int)))]) (fun n_3 x_1 x_2 x_2t x_2a x_2c x_2B x_2R => r.l.length - x_1 < n_3 ∧ Is (Pz r (r.l.length + 1) 0 []) (Pz r n_3 x_1 x_2) ∧ (Bi Fo 8 50 x_2a x_2c x_2B (List.zip x_2 x_2t) ∧ Dr x_2R DT x_2 x_2t) ∧ x_2.length ≤ x_1 ∧ x_1 ≤ r.l.length) (fun n_3 x_1 x_2 x_2t x_2a x_2c x_2B x_2R => n_3) (r.l.length + 1) 0 ([]) ([]) none 0 ([]) ([]) ?_ se (List.Perm.of_eq (by first | rfl | simp only [List.append_assoc, List.cons_append, List.nil_append])) ?_
 ·exact ⟨Nat.lt_succ_self _, Is.refl _, ⟨Bi.nil, Dr.nil⟩, Qc, Qc⟩
 ·rintro (_ | n_3) x_1 x_2 x_2t x_2a x_2c x_2B x_2R ⟨hm5, hF4, ⟨hx_2, hdx_2⟩, hi6, hi7⟩
  ·omega
  refine Tx ?_
  refine Bd rfl (fun hq1 => ?_) (fun hq1 => ?_)
  rotate_left
  ·refine Cu ?_
   refine Jl ?_
   refine Gg (.inr rfl) results147 (qc (qc q0)) ?_
   refine Ti ?_
   refine E6 ?_
   refine Aj Ae A5 (k := fun r9 hr9 => ?_)
   refine mO ?_
   refine Jk ?_
   refine Dw mixed 14 [(true, 0), (true, 1), (true, 3), (true, 4), (true, 6), (true, 7), (true, 10), (true, 11), (true, 12), (false, 2), (false, 5), (false, 8), (true, 9), (true, 13)] z6 ?_
   refine uK ?_
   refine Ay (Al Vm) (k := ?_)
   refine Ay (Bb isAgg29) (k := ?_)
   refine Ay (Al Se) (k := ?_)
   refine Ay lN (k := ?_)
   refine Ay (Bb isAgg32) (k := ?_)
   refine Ay (Al Nl) (k := ?_)
   refine Tj ?_
   refine jU (Aa call123) (fun w1 hw1 => Tu w1 (s := r.slots.gens) (h_s := (Ch.of_base h_r_Sg) w1 hw1) (n_s := by first | omega | (simp; done) | exact (hsm _ z8).1 | exact (hsm _ z8).2)) (k := ?_)
   rintro w1_5 e1_5 w2_5 hw1_5 ⟨a1_5, c1_5, B1_5, he_5, hf_5, ho1_5⟩
   refine ⟨_, _, _, he_5, hf_5, rfl, ?_⟩
   refine jU (Aa call124) (fun w1 hw1 => bJ w1 (s := r.slots.used) (h_s := (Ch.of_base h_r_Su) w1 hw1) (n_s := by first | omega | (simp; done) | exact (hsm _ z8).1 | exact (hsm _ z8).2)) (k := ?_)
   rintro w1_6 e1_6 w2_6 hw1_6 ⟨a1_6, c1_6, B1_6, he_6, hf_6, ho1_6⟩
   refine ⟨_, _, _, he_6, hf_6, rfl, ?_⟩
   refine jU (Aa call123) (fun w1 hw1 => Tu w1 (s := r.slots.free) (h_s := (Ch.of_base h_r_Sf) w1 hw1) (n_s := by first | omega | (simp; done) | exact (hsm _ z8).1 | exact (hsm _ z8).2)) (k := ?_)
   rintro w1_7 e1_7 w2_7 hw1_7 ⟨a1_7, c1_7, B1_7, he_7, hf_7, ho1_7⟩
   refine ⟨_, _, _, he_7, hf_7, rfl, ?_⟩
   refine Ay z67 (k := ?_)
   refine Ay (Cf (cs := [_, _, _, _, _]) zeroValue34 U2) (k := ?_)
   refine Lh ?_
   refine lV ?_
   refine Db [rD5] (qc (qc (qc (qa (qa (qc (qc q0))))))) results74 U8 (fun w1 hw1 => ?_)
   exact ⟨a1_5, c1_5, a1_6, c1_6, a1_7, c1_7, x_2a, x_2c, x_2t, (B1_5 ++ (B1_6 ++ (B1_7 ++ (x_2B ++ x_2R)))), (rq (hF.rn2 (hF4.neg hq1))), (Aq (L := (B1_5 ++ (B1_6 ++ (B1_7 ++ (x_2B ++ x_2R))))) (hw1.perm (((((qd (qd (qd (qb (qb (qd q0)))))).trans (qd (qd (qd (qd (qb (qb q0))))))).trans (qd (qd q0))).trans (qd (qd (qd q0)))).trans (qd (qd (qd (qd q0)))))) (nA (nA (nA (nA rfl)))).symm), (by rw [(hF.rn2 (hF4.neg hq1)).eq]; exact (ho1_5.slb Au)), (by rw [(hF.rn2 (hF4.neg hq1)).eq]; exact (ho1_6.slb Mc)), (by rw [(hF.rn2 (hF4.neg hq1)).eq]; exact (ho1_7.slb Au)), (by rw [(hF.rn2 (hF4.neg hq1)).eq]; exact ⟨((Bi.nb (U := (x_2B ++ x_2R)) Bt hx_2 hdx_2 (hB := sh) (hR := sh)).mono sh), (by have h0 := hx_2.le'; rwa [Kd hdx_2.1] at h0)⟩), (rl (hF.rn2 (hF4.neg hq1))), (rl (hF.rn2 (hF4.neg hq1))), (rl (hF.rn2 (hF4.neg hq1))), (rl (hF.rn2 (hF4.neg hq1)))⟩
  refine Qd ?_
  refine X1 ?_
  have hcp2 := (h_r_l.2.2 x_1 Da).2.2.1
  have hcp3 := (h_r_l.2.2 x_1 Da).2.2.2
  refine AB6 ?_
  refine Aj Ae Zl (k := fun r6 hr6 => ?_)
  refine Y5 ?_
  refine Z0 ?_
  refine Qp ?_
  refine Ad S7 (k := ?_)
  refine Y6 ?_
  refine Jt (vs := [(vi ((x_1 : Nat) : Int)), (Value.agg [(vi ((r.l.getD x_1 default).handle.slot)), (vi ((r.l.getD x_1 default).handle.gen)), (vt ((r.l.getD x_1 default).name)), (vi ((r.l.getD x_1 default).state)), (vi ((r.l.getD x_1 default).version)), (vs ((r_l_t.getD x_1 default).ra) ((r.l.getD x_1 default).rules.length) ((r_l_t.getD x_1 default).rc)), (vs ((r_l_t.getD x_1 default).ca) ((r.l.getD x_1 default).creds.length) ((r_l_t.getD x_1 default).cc)), (vi ((r.l.getD x_1 default).deadline)), (vi r.seq)].toArray)]) hl5 (qa (qc (qc q0))) Dh ?_
  refine Dn ?_
  refine Aj Ae (Bz (l := [_, _, _, _, _, _, _, _, _]) zeroValue104) (k := fun r7 hr7 => ?_)
  refine Z9 ?_
  refine uH ?_
  refine Ff _ _ (vp (qb (qb (qb q0))) (nA nE)) mixed 5 [(true, 0), (true, 1), (false, 2), (false, 3), (false, 4)] z6 ?_
  refine Ay (Bb isAgg32) (k := ?_)
  refine Ay (Bq isAgg104 sizeOf104) (k := ?_)
  refine jU (Aa call42) (fun w1 hw1 => lE w1 (t := ((r.l.getD x_1 default), r.seq)) (h_t_1_rules := (fun w hw => ((Hh.of_base Ji h_r_l).at (m := x_1) Da w hw).1) w1 hw1) (n_t_1_rules := by first | omega | (simp; done) | exact (hsm _ z8).1 | exact (hsm _ z8).2) (h_t_1_creds := (fun w hw => ((Hh.of_base Ji h_r_l).at (m := x_1) Da w hw).2.1) w1 hw1) (n_t_1_creds := by first | omega | (simp; done) | exact (hsm _ z8).1 | exact (hsm _ z8).2)) (k := ?_)
  rintro w1_4 e1_4 w2_4 hw1_4 ⟨a1_4, c1_4, a2_4, c2_4, B1_4, B2_4, he_4, hf_4, ho1_4, ho2_4⟩
  refine ⟨_, _, _, he_4, hf_4, (nA rfl).symm, ?_⟩
  refine Gf Ae U7 (k := fun r8 hr8 => ?_)
  refine Cn (List.zip (x_2 ++ ([(((r.l.getD x_1 default), r.seq).1)] : List Ah)) (x_2t ++ ([⟨a1_4, c1_4, a2_4, c2_4⟩] : List TA))) (List.zip_append hdx_2.1.symm).symm Ip underlying32 Bt hx_2 q0 (Bi.nj Bt (Bi.mk (xs := List.zip ([(((r.l.getD x_1 default), r.seq).1)] : List Ah) ([⟨a1_4, c1_4, a2_4, c2_4⟩] : List TA)) rfl rfl Bt) (Dr.one (B := (B1_4 ++ (B2_4 ++ []))) (D := DT) (fun w hw => ⟨(ho1_4.sl Oq (N5 hw)), (ho2_4.sl Gj (N5 hw)), ho1_4.le', ho2_4.le'⟩)) (hB := sh) (hR := sh)).sl ⟨by first | exact lb, by first | exact lb⟩ (n := x_2.length) (m := 1) (hn := (Kd hdx_2.1)) (hm := (Kd (Dr.one (B := (B1_4 ++ (B2_4 ++ []))) (D := DT) (fun w hw => ⟨(ho1_4.sl Oq (N5 hw)), (ho2_4.sl Gj (N5 hw)), ho1_4.le', ho2_4.le'⟩)).1)) (k := fun ax2 cx2 Bx2 hox2 => ?_)
  have hzl2 : (List.zip (x_2 ++ ([(((r.l.getD x_1 default), r.seq).1)] : List Ah)) (x_2t ++ ([⟨a1_4, c1_4, a2_4, c2_4⟩] : List TA))).length = (x_2 ++ ([(((r.l.getD x_1 default), r.seq).1)] : List Ah)).length := Kd (by rw [List.length_append, List.length_append, hdx_2.1, (Dr.one (B := (B1_4 ++ (B2_4 ++ []))) (D := DT) (fun w hw => ⟨(ho1_4.sl Oq (N5 hw)), (ho2_4.sl Gj (N5 hw)), ho1_4.le', ho2_4.le'⟩)).1])
  rw [hzl2]
  have hal2 : (x_2 ++ ([(((r.l.getD x_1 default), r.seq).1)] : List Ah)).length = x_2.length + 1 := List.length_append
  have hdp4 : Dr (x_2R ++ (B1_4 ++ (B2_4 ++ []))) DT (x_2 ++ ([(((r.l.getD x_1 default), r.seq).1)] : List Ah)) (x_2t ++ ([⟨a1_4, c1_4, a2_4, c2_4⟩] : List TA)) := Dr.append (hdx_2.mono sh) ((Dr.one (B := (B1_4 ++ (B2_4 ++ []))) (D := DT) (fun w hw => ⟨(ho1_4.sl Oq (N5 hw)), (ho2_4.sl Gj (N5 hw)), ho1_4.le', ho2_4.le'⟩)).mono sh)
  refine eZ ?_
  refine Eh (Bc (l' := [_]) sizeOf32) (k := ?_)
  refine vG ?_
  refine Ex (qc (qa (qc (qc q0)))) ?_
  refine Oc ?_
  refine Pb ?_
  refine Dj _ ((((((((((qa (qc (qa (qc (qc (qa (qa (qc (qa (qa (qa (qa q0)))))))))))).trans (qa (qa (qc (qa (qc (qc (qa (qa (qc (qa (qa (qa q0))))))))))))).trans (qa (qa (qa (qc (qa (qc (qc (qa (qa (qc (qa (qa q0))))))))))))).trans (qa (qa (qa (qa (qc (qa (qc (qc (qa (qa (qc (qa q0))))))))))))).trans (qa (qa (qa (qa (qa (qc (qa (qc (qc (qa (qa (qc q0))))))))))))).trans (qa (qa (qa (qa (qa q0)))))).trans (qb (qb (qb (qb (qb (qb (qd (qb (qd q0)))))))))).trans (qd (qb (qb (qb (qb (qb (qb (qd (qb q0)))))))))).trans (qd (qd (qb (qb (qb (qb (qb (qb (qd (qb (qb (qb q0))))))))))))).trans (qd (qd (qd (qb (qb (qb (qb (qb (qb q0)))))))))) ?_
  refine Cc _ (List.Sublist.append Xw (List.Sublist.append Xw (List.Sublist.append Xw (List.Sublist.append Xw R8)))) ?_
  exact L4 n_3 (x_1 + 1) (x_2 ++ ([(((r.l.getD x_1 default), r.seq).1)] : List Ah)) (x_2t ++ ([⟨a1_4, c1_4, a2_4, c2_4⟩] : List TA)) ax2 cx2 Bx2 (x_2R ++ (B1_4 ++ B2_4)) ⟨by omega, (hF4.pos hq1), ⟨hox2, (hdp4.mono sh)⟩, z8, z8⟩ (Nat.lt_succ_self _) se (List.Perm.of_eq (by first | rfl | simp only [List.append_assoc, List.cons_append, List.nil_append]))

theorem zI (w : World) {r_Sg_a : Option Addr} {r_Sg_c : Nat} {r_Su_a : Option Addr} {r_Su_c : Nat} {r_Sf_a : Option Addr} {r_Sf_c : Nat} {r_l_a : Option Addr} {r_l_c : Nat} {r_l_t : List TA} {r : Bs} (h_r_Sg : Sl w eI 1 r_Sg_a r.slots.gens) (n_r_Sg : r.slots.gens.length ≤ 1000) (h_r_Su : Sl w eB 1 r_Su_a r.slots.used) (n_r_Su : r.slots.used.length ≤ 1000) (h_r_Sf : Sl w eI 1 r_Sf_a r.slots.free) (n_r_Sf : r.slots.free.length ≤ 1000) (h_r_l : cG w Fo 8 DT r_l_a r.l r_l_t) (n_r_l : r.l.length ≤ 1000) (k_r_l : r.l.length ≤ r_l_c) (hsm : Gq r.l) : Calls Tryz.prog 74 (List.toArray [(Value.agg [(vs r_Sg_a r.slots.gens.length r_Sg_c), (vs r_Su_a r.slots.used.length r_Su_c), (vs r_Sf_a r.slots.free.length r_Sf_c), (vs r_l_a r.l.length r_l_c), (vi r.seq)].toArray)]) w fun e w2 => ∃ a1 : Option Addr, ∃ c1 : Nat, ∃ a2 : Option Addr, ∃ c2 : Nat, ∃ a3 : Option Addr, ∃ c3 : Nat, ∃ a4 : Option Addr, ∃ c4 : Nat, ∃ t4 : List TA, ∃ B : Am, e = .returned (Value.agg [(vs a1 r.slots.gens.length c1), (vs a2 r.slots.used.length c2), (vs a3 r.slots.free.length c3), (vs a4 r.l.length c4), (vi r.seq)].toArray) ∧ Dz w w2 B ∧ Hb B eI 1 a1 r.slots.gens ∧ Hb B eB 1 a2 r.slots.used ∧ Hb B eI 1 a3 r.slots.free ∧ (Ko B Fo 8 DT a4 r.l t4 ∧ r.l.length ≤ c4) ∧ r.slots.gens.length ≤ 1000 ∧ r.slots.used.length ≤ 1000 ∧ r.slots.free.length ≤ 1000 ∧ r.l.length ≤ 1000 := by
 have h := P3 w (r_Sg_a := r_Sg_a) (r_Sg_c := r_Sg_c) (r_Su_a := r_Su_a) (r_Su_c := r_Su_c) (r_Sf_a := r_Sf_a) (r_Sf_c := r_Sf_c) (r_l_a := r_l_a) (r_l_c := r_l_c) (r_l_t := r_l_t) (r := r) h_r_Sg n_r_Sg h_r_Su n_r_Su h_r_Sf n_r_Sf h_r_l n_r_l k_r_l hsm
 simp only [P1] at h
 exact h

theorem zJ (w : World) {r_Sg_a : Option Addr} {r_Sg_c : Nat} {r_Su_a : Option Addr} {r_Su_c : Nat} {r_Sf_a : Option Addr} {r_Sf_c : Nat} {r_l_a : Option Addr} {r_l_c : Nat} {r_l_t : List TA} {r : Bs} {name : Ai} (h_r_Sg : Sl w eI 1 r_Sg_a r.slots.gens) (n_r_Sg : r.slots.gens.length ≤ 1000) (h_r_Su : Sl w eB 1 r_Su_a r.slots.used) (n_r_Su : r.slots.used.length ≤ 1000) (h_r_Sf : Sl w eI 1 r_Sf_a r.slots.free) (n_r_Sf : r.slots.free.length ≤ 1000) (h_r_l : cG w Fo 8 DT r_l_a r.l r_l_t) (n_r_l : r.l.length ≤ 1000) (k_r_l : r.l.length ≤ r_l_c) (hsm : Gq r.l) : Calls Tryz.prog 15 (List.toArray [(Value.agg [(vs r_Sg_a r.slots.gens.length r_Sg_c), (vs r_Su_a r.slots.used.length r_Su_c), (vs r_Sf_a r.slots.free.length r_Sf_c), (vs r_l_a r.l.length r_l_c), (vi r.seq)].toArray), (vt name)]) w fun e w2 => ∃ a1 : Option Addr, ∃ c1 : Nat, ∃ a2 : Option Addr, ∃ c2 : Nat, ∃ B1 : Am, ∃ B2 : Am, e = .returned (Value.tuple [(Value.agg [(vi ((Ct r name).1.handle.slot)), (vi ((Ct r name).1.handle.gen)), (vt ((Ct r name).1.name)), (vi ((Ct r name).1.state)), (vi ((Ct r name).1.version)), (vs a1 ((Ct r name).1.rules.length) c1), (vs a2 ((Ct r name).1.creds.length) c2), (vi ((Ct r name).1.deadline))].toArray), (Value.bool ((Ct r name).2))].toArray) ∧ Dz w w2 (B1 ++ B2) ∧ Bi Nk 5 84 a1 c1 B1 (Ct r name).1.rules ∧ Bi Jh 4 112 a2 c2 B2 (Ct r name).1.creds ∧ (Ct r name).1.rules.length ≤ 1000 ∧ (Ct r name).1.creds.length ≤ 1000 := by
 have hF := Is.refl (Ct r name)
 refine enter func15 ntmps15 (h := ?_)
 refine Z2 ?_
 refine Aj Ae oT (k := fun r1 hr1 => ?_)
 refine Aj Ae Zl (k := fun r2 hr2 => ?_)
 refine Oy ?_
 refine vZ ?_
 refine Cg ?_
 refine Co (Aa call41) (fun w1 hw1 => eJ w1 (r := r) (name := name) (h_r_Sg := (Ch.of_base h_r_Sg) w1 hw1) (n_r_Sg := by first | omega | (simp; done) | exact (hsm _ z8).1 | exact (hsm _ z8).2) (h_r_Su := (Ch.of_base h_r_Su) w1 hw1) (n_r_Su := by first | omega | (simp; done) | exact (hsm _ z8).1 | exact (hsm _ z8).2) (h_r_Sf := (Ch.of_base h_r_Sf) w1 hw1) (n_r_Sf := by first | omega | (simp; done) | exact (hsm _ z8).1 | exact (hsm _ z8).2) (h_r_l := (Hh.of_base Ji h_r_l).2 w1 hw1) (n_r_l := by first | omega | (simp; done) | exact (hsm _ z8).1 | exact (hsm _ z8).2) (k_r_l := k_r_l)) (k := ?_)
 refine Qt ?_
 refine Hc ?_
 refine Oc ?_
 refine Dc rfl (fun hq1 => ?_) (fun hq1 => ?_)
 ·refine Bw ?_
  refine Dn ?_
  refine Ad (Cf (cs := [_, _, _, _, _, _, _, _]) zeroValue50 U3) (k := ?_)
  refine jJ ?_
  refine Qr ?_
  refine Ac results15 (Bk.agg isAgg50 sizeOf50 rfl me rfl z1) (fun w1 hw1 => ?_)
  exact ⟨none, 0, none, 0, [], [], (rq (hF.t hq1)), (hw1.fresh_out.sub Mt), (ro (hF.t hq1)), (ro (hF.t hq1)), (by rw [(hF.t hq1).eq]; first | omega | (simp; done) | exact (hsm _ z8).1 | exact (hsm _ z8).2 | (simp; done)), (by rw [(hF.t hq1).eq]; first | omega | (simp; done) | exact (hsm _ z8).1 | exact (hsm _ z8).2 | (simp; done))⟩
 have hfhq1 := zF uF
 refine cQ ?_
 refine Dw mixed 9 [(true, 0), (true, 1), (true, 2), (true, 3), (true, 4), (true, 5), (true, 6), (true, 7), (false, 8)] z6 ?_
 refine Ay (Al Py) (k := ?_)
 refine Ay (Bb isAgg32) (k := ?_)
 refine Fi ?_
 refine Ay (Dl (n := r.l.length) runUnderlying32 sizeOf50 (((Hj r name).1).toNat) (Hh.of_base Ji h_r_l).sl (Yy h_r_l.1 Da) (Kd h_r_l.1)) (k := ?_)
 have hcp2 := (h_r_l.2.2 (((Hj r name).1).toNat) Da).2.2.1
 have hcp3 := (h_r_l.2.2 (((Hj r name).1).toNat) Da).2.2.2
 refine Ay (Ht isAgg50 sizeOf50 (((Hj r name).1).toNat) (Hh.of_base Ji h_r_l).sl (Yy h_r_l.1 Da)) (k := ?_)
 refine Ay (Al Nl) (k := ?_)
 refine Tj ?_
 refine Ay (Cf (cs := [_, _, _, _, _, _, _, _, _]) zeroValue104 zE) (k := ?_)
 refine jU (Aa call42) (fun w1 hw1 => lE w1 (t := ((r.l.getD (((Hj r name).1).toNat) default), r.seq)) (h_t_1_rules := (fun w hw => ((Hh.of_base Ji h_r_l).at (m := ((Hj r name).1).toNat) Da w hw).1) w1 hw1) (n_t_1_rules := by first | omega | (simp; done) | exact (hsm _ z8).1 | exact (hsm _ z8).2) (h_t_1_creds := (fun w hw => ((Hh.of_base Ji h_r_l).at (m := ((Hj r name).1).toNat) Da w hw).2.1) w1 hw1) (n_t_1_creds := by first | omega | (simp; done) | exact (hsm _ z8).1 | exact (hsm _ z8).2)) (k := ?_)
 rintro w1_1 e1_1 w2_1 hw1_1 ⟨a1_1, c1_1, a2_1, c2_1, B1_1, B2_1, he_1, hf_1, ho1_1, ho2_1⟩
 refine ⟨_, _, _, he_1, hf_1, (nA rfl).symm, ?_⟩
 refine Lh ?_
 refine jJ ?_
 refine Z5 ?_
 refine Ac results15 (Bk.agg isAgg50 sizeOf50 rfl me rfl z1) (fun w1 hw1 => ?_)
 exact ⟨a1_1, c1_1, a2_1, c2_1, B1_1, B2_1, (rq (hF.f hq1)), (Aq (L := (B1_1 ++ B2_1)) (hw1.perm (List.Perm.refl _)) (nA rfl).symm), (by rw [(hF.f hq1).eq]; exact ho1_1), (by rw [(hF.f hq1).eq]; exact ho2_1), (by rw [(hF.f hq1).eq]; first | omega | (simp; done) | exact (hsm _ z8).1 | exact (hsm _ z8).2 | (simp; done)), (by rw [(hF.f hq1).eq]; first | omega | (simp; done) | exact (hsm _ z8).1 | exact (hsm _ z8).2 | (simp; done))⟩

theorem P4 (w : World) {n_ : Int} : Calls Tryz.prog 31 (List.toArray [(vi n_)]) w fun e w2 => ∃ a1 : Option Addr, ∃ c1 : Nat, ∃ a2 : Option Addr, ∃ c2 : Nat, ∃ a3 : Option Addr, ∃ c3 : Nat, ∃ a4 : Option Addr, ∃ c4 : Nat, ∃ t4 : List TA, ∃ B : Am, e = .returned (Value.tuple [(Value.agg [(vs a1 ((Cd n_).1.slots.gens.length) c1), (vs a2 ((Cd n_).1.slots.used.length) c2), (vs a3 ((Cd n_).1.slots.free.length) c3), (vs a4 ((Cd n_).1.l.length) c4), (vi ((Cd n_).1.seq))].toArray), (vi ((Cd n_).2))].toArray) ∧ Dz w w2 B ∧ Hb B eI 1 a1 (Cd n_).1.slots.gens ∧ Hb B eB 1 a2 (Cd n_).1.slots.used ∧ Hb B eI 1 a3 (Cd n_).1.slots.free ∧ (Ko B Fo 8 DT a4 (Cd n_).1.l t4 ∧ (Cd n_).1.l.length ≤ c4) ∧ (Cd n_).1.slots.gens.length ≤ 1000 ∧ (Cd n_).1.slots.used.length ≤ 1000 ∧ (Cd n_).1.slots.free.length ≤ 1000 ∧ (Cd n_).1.l.length ≤ 1000 := by
 have hF := Is.refl (Cd n_)
 refine enter func31 ntmps31 (h := ?_)
 refine Z2 ?_
 refine Aj Ae S4 (k := fun r1 hr1 => ?_)
 refine Mu ?_
 refine Pj (Aa call72) (fun w1 hw1 => O3 w1 (n_ := n_)) (k := ?_)
 rintro w1_1 e1_1 w2_1 hw1_1 ⟨a1_1, c1_1, a2_1, c2_1, a3_1, c3_1, B_1, he_1, hf_1, hs1_1, hs2_1, hs3_1, hl1_1, hl2_1, hl3_1⟩
 refine ⟨_, _, he_1, hw1_1.fresh hf_1, ?_⟩
 refine Zp ?_
 refine Aj Ae A5 (k := fun r2 hr2 => ?_)
 refine mO ?_
 refine Oy ?_
 refine jD ?_
 refine Ad (Cf (cs := [_, _, _, _, _]) zeroValue34 U2) (k := ?_)
 refine Cg ?_
 refine mU ?_
 refine Z5 ?_
 refine Ac results31 (Bk.agg isAgg34 sizeOf34 rfl me rfl z1) (fun w1 hw1 => ?_)
 exact ⟨a1_1, c1_1, a2_1, c2_1, a3_1, c3_1, none, 0, [], B_1, (rq hF), (Aq (L := B_1) (hw1.perm (qb q0)) rfl.symm), (by unfold Cd; exact (hs1_1.mono S0)), (by unfold Cd; exact (hs2_1.mono S0)), (by unfold Cd; exact (hs3_1.mono S0)), (by unfold Cd; exact ⟨Ko.nil, by first | (simp; done) | exact Nat.le_of_eq rfl⟩), (by unfold Cd; first | exact lb), (by unfold Cd; first | exact lb), (by unfold Cd; first | exact lb), (by unfold Cd; first | exact lb)⟩

end Go.Proofs.YtdnjanhdnibkfaaGreatDoor.Jd

namespace Go.Proofs.YtdnjanhdnibkfaaGreatDoor.Jd
open Go.Proofs.Tryz
open Go.Proofs
set_option maxRecDepth 100000
open Go.RowKit Go.Extern.Stop Go.Stop Go.Extern
set_option linter.unusedVariables false
set_option linter.unusedSimpArgs false
theorem AF9 (t : Value) (w : World) : Calls Tryz.prog 128 #[.nilIface, t] w fun e w' => e = .returned (.bool false) ∧ w' = w := by
  go_enter func128, ntmps128
  go_wp2
  go_ret
  exact ⟨rfl, rfl⟩
theorem zK (w : World) {t : Value} : Gz Tryz.prog 128 [.nilIface, t] w (.bool false) :=
  (AF9 t w).mono fun e w' ⟨he, hw⟩ => ⟨he, hw ▸ Below.refl _ _⟩
end Go.Proofs.YtdnjanhdnibkfaaGreatDoor.Jd

namespace Go.Proofs.YtdnjanhdnibkfaaGreatDoor.Jd
open Go.Proofs.Tryz
open Go.Proofs
open Go.RowKit (Below)
set_option maxRecDepth 100000
set_option maxHeartbeats 8000000
set_option linter.unusedVariables false
set_option linter.unusedSimpArgs false
theorem tJ (w : World) (hG : Gl w) : Gz Tryz.prog 77 [Value.nilIface] w (vi 0) := by
 have hF := Is.refl 0
 refine enter func77 ntmps77 (h := ?_)
 refine Jn ?_
 refine Aj Ae (Bz (l := [_]) zeroValue221) (k := fun r1 hr1 => ?_)
 refine Jk ?_
 refine Z3 ?_
 refine Ad (dW underlying223) (k := ?_)
 refine Co (args := [Value.nilIface, (Value.iface 223 (Value.pointer (some ⟨r1, 0, none⟩)))]) (Aa call128) (fun w1 hw1 => zK w1) (k := ?_)
 refine Z0 ?_
 refine Pa ?_
 refine Yc ?_
 refine Ac results77 z1 (fun w1 hw1 => ?_)
 exact ⟨(by rfl), hw1.ext_out⟩

end Go.Proofs.YtdnjanhdnibkfaaGreatDoor.Jd

namespace Go.Proofs.YtdnjanhdnibkfaaGreatDoor.Jd
open Go.Proofs.Tryz
open Go.Proofs
open Go.RowKit (Below)
set_option maxRecDepth 100000
set_option maxHeartbeats 8000000
set_option linter.unusedVariables false
set_option linter.unusedSimpArgs false


theorem eK (w : World) {n_ : Int} (hi : 0 ≤ n_ ∧ n_ ≤ 1000000) : Calls Tryz.prog 258 (List.toArray [(vs none 0 0), (vi n_)]) w fun e w2 => ∃ a1 : Option Addr, ∃ c1 : Nat, ∃ B1 : Am, e = .returned (vs a1 (([] : List (Ah × TA)).length) c1) ∧ Dz w w2 B1 ∧ Bi Fo 8 50 a1 c1 B1 ([] : List (Ah × TA)) := by
 have hF := Is.refl ([] : List (Ah × TA))
 refine enter func258 ntmps258 (h := ?_)
 refine Qj ?_
 refine Z8 ?_
 refine Bd rfl (fun hq1 => ?_) (fun hq1 => ?_)
 ·exfalso
  omega
 refine cQ ?_
 refine Qp ?_
 refine Ad (xM runUnderlying32) (k := ?_)
 refine Cg ?_
 refine sA ?_
 refine Sq ?_
 refine Sq ?_
 refine Mu ?_
 refine Ad Uh (k := ?_)
 refine Z0 ?_
 refine Bd rfl (fun hq2 => ?_) (fun hq2 => ?_)
 rotate_left
 ·refine Br ?_
  refine Gv ?_
  refine Pc ?_
  refine Ac results258 z1 (fun w1 hw1 => ?_)
  have hcan0 : ([] : List (Ah × TA)) = ([] : List (Ah × TA)) := by (first | rfl | simp)
  have hlen0 : 0 = ([] : List (Ah × TA)).length := by first | (rw [← hcan0]; done) | (rw [← hcan0]; first | rfl | (simp; done) | (simp only [List.length_append, List.length_take, List.length_drop, List.length_set, List.length_replicate, List.length_cons, List.length_nil, List.length_map, Cq, Ce]; omega) | (simp; omega))
  exact ⟨none, 0, [], qK, (hw1.fresh_out.sub Mt), (hcan0 ▸ Bi.nil)⟩
 refine Sv ?_
 refine Ad (xM runUnderlying32) (k := ?_)
 have hl3 : (([] : List (Ah × TA)).take 0).length = 0 := by rw [List.length_take]; omega
 refine Ad (Ju (([] : List (Ah × TA)).take 0).length runUnderlying32 (fun w => ⟨_, sizeOf50 w⟩) (hm := z8) (hi := z8)) (k := ?_)
 refine Cg ?_
 refine bD (i := (n_ - 0)) (n := (([] : List (Ah × TA)).take 0).length) (c := 0) (x0 := default) (xs := (([] : List (Ah × TA)).take 0)) (m := (n_ - 0).toNat) Ip underlying32 underlying3 Bt rfl (Ch.nilj.take 0) Da Da Da ⟨by first | exact ix, by first | exact ix⟩ z8 (k := fun ax1 cx1 Bx1 hox1 => ?_)
 refine Cg ?_
 refine sA ?_
 have hl4 : (((([] : List (Ah × TA)).take 0) ++ List.replicate ((n_ - 0).toNat) default).take 0).length = 0 := by rw [List.length_take]; omega
 have hl4c := hox1.le'
 refine Ad (Ju (((([] : List (Ah × TA)).take 0) ++ List.replicate ((n_ - 0).toNat) default).take 0).length runUnderlying32 (fun w => ⟨_, sizeOf50 w⟩) (hm := z8) (hi := z8)) (k := ?_)
 refine Mu ?_
 refine Z5 ?_
 refine Ac results258 z1 (fun w1 hw1 => ?_)
 have hcan0 : (((([] : List (Ah × TA)).take 0) ++ List.replicate ((n_ - 0).toNat) default).take 0) = ([] : List (Ah × TA)) := by (first | rfl | simp)
 have hlen0 : (((([] : List (Ah × TA)).take 0) ++ List.replicate ((n_ - 0).toNat) default).take 0).length = ([] : List (Ah × TA)).length := by first | (rw [← hcan0]; done) | (rw [← hcan0]; first | rfl | (simp; done) | (simp only [List.length_append, List.length_take, List.length_drop, List.length_set, List.length_replicate, List.length_cons, List.length_nil, List.length_map, Cq, Ce]; omega) | (simp; omega))
 exact ⟨ax1, cx1, Bx1, qK, (Aq (L := Bx1) (hw1.perm (List.Perm.refl _)) rfl.symm), (hcan0 ▸ (hox1.take Bt 0))⟩

theorem P5 (w : World) {s0a : Option Addr} {s0n : Nat} {s0c : Nat} {s1a : Option Addr} {s1n : Nat} {s1c : Nat} {s2a : Option Addr} {s2n : Nat} {s2c : Nat} {q_ : Int} {l_a : Option Addr} {l_c : Nat} {l : List (Ah × TA)} {x : Ah × TA} (h_l : Sl w Fo 8 l_a l) (n_l : l.length ≤ 1000) (k_l : l.length ≤ l_c) : Calls Tryz.prog 182 (List.toArray [(Value.agg [(vs s0a s0n s0c), (vs s1a s1n s1c), (vs s2a s2n s2c), (vs l_a l.length l_c), (vi q_)].toArray), (Value.agg [(vi x.1.handle.slot), (vi x.1.handle.gen), (vt x.1.name), (vi x.1.state), (vi x.1.version), (vs x.2.ra x.1.rules.length x.2.rc), (vs x.2.ca x.1.creds.length x.2.cc), (vi x.1.deadline)].toArray)]) w fun e w2 => ∃ a1 : Option Addr, ∃ c1 : Nat, ∃ B1 : Am, e = .returned (Value.agg [(vs s0a s0n s0c), (vs s1a s1n s1c), (vs s2a s2n s2c), (vs a1 ((tI l x).length) c1), (vi q_)].toArray) ∧ Dz w w2 B1 ∧ Bi Fo 8 50 a1 c1 B1 (tI l x) := by
 have hF := Is.refl (tI l x)
 refine enter func182 ntmps182 (h := ?_)
 refine Z2 ?_
 refine Aj Ae oT (k := fun r1 hr1 => ?_)
 refine Aj Ae (Jf (l := [_, _, _, _, _, _, _, _])) (k := fun r2 hr2 => ?_)
 refine Aj Ae S4 (k := fun r3 hr3 => ?_)
 refine Qn ?_
 refine Z1 ?_
 refine qM ?_
 refine Ka (σ1 := Nat) (σ2 := Nat) (fun n_2 at_1 => ((r3, oc [(vs none 0 0), (vs none 0 0), (vs none 0 0), (vs none 0 0), (vi 0)] 34) :: ((r2, oc [(vi x.1.handle.slot), (vi x.1.handle.gen), (vt x.1.name), (vi x.1.state), (vi x.1.version), (vs x.2.ra x.1.rules.length x.2.rc), (vs x.2.ca x.1.creds.length x.2.cc), (vi x.1.deadline)] 50) :: ((r1, oc [(vs s0a s0n s0c), (vs s1a s1n s1c), (vs s2a s2n s2c), (vs l_a l.length l_c), (vi q_)] 34) :: [])))) (fun n_2 at_1 => [(2, (Value.pointer (some ⟨r1, 0, none⟩))), (3, (Value.pointer (some ⟨r2, 0, none⟩))), (4, (Value.pointer (some ⟨r3, 0, none⟩))), (5, (vi ((at_1 : Nat) : Int)))]) (fun n_2 at_1 => l.length - at_1 < n_2 ∧ Is (Sg l x (l.length + 1) 0) (Sg l x n_2 at_1) ∧ at_1 ≤ l.length) (fun n_2 at_1 => n_2) (l.length + 1) 0 ?_ se (List.Perm.refl _) ?_
 ·exact ⟨Nat.lt_succ_self _, Is.refl _, Qc⟩
 ·rintro (_ | n_2) at_1 ⟨hm4, hF3, hi5⟩
  ·omega
  refine Ez ?_
  refine Ez ?_
  refine Dw mixed 18 [(true, 0), (true, 1), (true, 2), (true, 3), (true, 4), (true, 5), (true, 6), (true, 7), (true, 8), (true, 9), (true, 10), (true, 11), (true, 12), (true, 13), (true, 14), (true, 15), (true, 16), (true, 17)] z6 ?_
  refine Fi ?_
  refine Ay (Al Py) (k := ?_)
  refine Ay (Bb isAgg32) (k := ?_)
  refine Ay (Dg runUnderlying32) (k := ?_)
  refine Ay Mx (k := ?_)
  refine Fi ?_
  refine Ge 12 rfl (fun hq1 => ?_) (fun hq1 => ?_)
  rotate_left
  ·refine Bl 11 rfl ?_
   refine cM ?_
   refine S9 ?_
   refine Kg ?_
   refine Z2 ?_
   refine vJ ?_
   refine Cg ?_
   have hld19 : (l.drop at_1).length = l.length - at_1 := List.length_drop
   refine AJ7 ?_
   refine Z55 ?_
   refine Fi ?_
   refine Ay (Dg runUnderlying32) (k := ?_)
   refine Ay Uh (k := ?_)
   refine Fi ?_
   refine Ge 34 rfl (fun hq20 => ?_) (fun hq20 => ?_)
   rotate_left
   ·refine Bl 9 rfl ?_
    refine cM ?_
    refine Pa ?_
    refine Ez ?_
    refine rM ?_
    refine Mp ?_
    have hl31 : (l.take at_1).length = at_1 := by rw [List.length_take]; omega
    refine rS ?_
    refine Gf Ae U7 (k := fun r14 hr14 => ?_)
    refine Gf Ae z43 (k := fun r15 hr15 => ?_)
    refine qV ?_
    refine Yg ?_
    refine Ql ?_
    refine Bd rfl (fun hq32 => ?_) (fun hq32 => ?_)
    ·exfalso
     omega
    refine Br ?_
    refine Xy ?_
    refine Ql ?_
    refine Bd rfl (fun hq33 => ?_) (fun hq33 => ?_)
    ·exfalso
     omega
    refine Br ?_
    refine Xz ?_
    refine Ql ?_
    refine Bd rfl (fun hq34 => ?_) (fun hq34 => ?_)
    ·exfalso
     omega
    refine lY ?_
    refine C2 ?_
    rintro w1_7 e1_7 w2_7 hw1_7 ⟨a1_7, c1_7, B1_7, he_7, hf_7, ho1_7⟩
    refine ⟨_, _, he_7, hw1_7.fresh hf_7, ?_⟩
    refine Yg ?_
    refine Qm ?_
    refine Ar (([] : List (Ah × TA)) ++ (l.take at_1)) rfl Ip underlying32 Bt ho1_7 q0 ((Ch.of_base h_l).take at_1) ⟨by first | omega | (simp only [List.length_append, List.length_nil, List.length_take, List.length_drop, List.length_cons]; omega), by first | omega | (simp only [List.length_append, List.length_nil, List.length_take, List.length_drop, List.length_cons]; omega)⟩ (n := ([] : List (Ah × TA)).length) (m := (l.take at_1).length) (k := fun ax16 cx16 Bx16 hox16 => ?_)
    have hal16 : (([] : List (Ah × TA)) ++ (l.take at_1)).length = ([] : List (Ah × TA)).length + (l.take at_1).length := by first | rfl | exact List.length_append | simp
    refine Mo ?_
    refine Xy ?_
    refine Qm ?_
    refine Ar ((([] : List (Ah × TA)) ++ (l.take at_1)) ++ ([x] : List (Ah × TA))) rfl Ip underlying32 Bt hox16 q0 (Ch.lit (xs := ([x] : List (Ah × TA))) Bt) ⟨by first | omega | (simp only [List.length_append, List.length_nil, List.length_take, List.length_drop, List.length_cons]; omega), by first | omega | (simp only [List.length_append, List.length_nil, List.length_take, List.length_drop, List.length_cons]; omega)⟩ (n := (([] : List (Ah × TA)) ++ (l.take at_1)).length) (m := 1) (k := fun ax17 cx17 Bx17 hox17 => ?_)
    have hal17 : ((([] : List (Ah × TA)) ++ (l.take at_1)) ++ ([x] : List (Ah × TA))).length = (([] : List (Ah × TA)) ++ (l.take at_1)).length + 1 := by first | rfl | exact List.length_append | simp
    refine Mo ?_
    refine Xz ?_
    refine Qm ?_
    refine Ar (((([] : List (Ah × TA)) ++ (l.take at_1)) ++ ([x] : List (Ah × TA))) ++ (l.drop at_1)) rfl Ip underlying32 Bt hox17 q0 (Ch.off cF at_1 l_c Zm) ⟨by first | omega | (simp only [List.length_append, List.length_nil, List.length_take, List.length_drop, List.length_cons]; omega), by first | omega | (simp only [List.length_append, List.length_nil, List.length_take, List.length_drop, List.length_cons]; omega)⟩ (n := ((([] : List (Ah × TA)) ++ (l.take at_1)) ++ ([x] : List (Ah × TA))).length) (m := (l.drop at_1).length) (k := fun ax18 cx18 Bx18 hox18 => ?_)
    have hal18 : (((([] : List (Ah × TA)) ++ (l.take at_1)) ++ ([x] : List (Ah × TA))) ++ (l.drop at_1)).length = ((([] : List (Ah × TA)) ++ (l.take at_1)) ++ ([x] : List (Ah × TA))).length + (l.drop at_1).length := by first | rfl | exact List.length_append | simp
    refine Mo ?_
    refine Zt ?_
    refine Pc ?_
    refine qP ?_
    refine qZ ?_
    refine Z0 ?_
    refine Xx ?_
    refine lV ?_
    refine Ac results182 U8 (fun w1 hw1 => ?_)
    exact ⟨ax18, cx18, Bx18, (rq (((((hF.rn1 (hF3.neg hq1)).neg hq20).neg hq32).neg hq33).neg hq34)), (Aq (L := Bx18) (hw1.perm (List.Perm.refl _)) rfl), (by rw [(((((hF.rn1 (hF3.neg hq1)).neg hq20).neg hq32).neg hq33).neg hq34).eq]; exact hox18)⟩
   refine Pd ?_
   refine AL2 ?_
   refine AL9 ?_
   refine Bj (Al Li) (k := ?_)
   refine Bj (Al Vk) (k := ?_)
   refine vO ?_
   refine iY ?_
   refine Bd rfl (fun hq21 => ?_) (fun hq21 => ?_)
   rotate_left
   ·refine Br ?_
    refine Gv ?_
    refine Ez ?_
    refine rM ?_
    refine Mp ?_
    have hl27 : (l.take at_1).length = at_1 := by rw [List.length_take]; omega
    refine rS ?_
    refine Gf Ae U7 (k := fun r12 hr12 => ?_)
    refine Gf Ae z43 (k := fun r13 hr13 => ?_)
    refine qV ?_
    refine Yg ?_
    refine Ql ?_
    refine Bd rfl (fun hq28 => ?_) (fun hq28 => ?_)
    ·exfalso
     omega
    refine Br ?_
    refine Xy ?_
    refine Ql ?_
    refine Bd rfl (fun hq29 => ?_) (fun hq29 => ?_)
    ·exfalso
     omega
    refine Br ?_
    refine Xz ?_
    refine Ql ?_
    refine Bd rfl (fun hq30 => ?_) (fun hq30 => ?_)
    ·exfalso
     omega
    refine lY ?_
    refine C2 ?_
    rintro w1_6 e1_6 w2_6 hw1_6 ⟨a1_6, c1_6, B1_6, he_6, hf_6, ho1_6⟩
    refine ⟨_, _, he_6, hw1_6.fresh hf_6, ?_⟩
    refine Yg ?_
    refine Qm ?_
    refine Ar (([] : List (Ah × TA)) ++ (l.take at_1)) rfl Ip underlying32 Bt ho1_6 q0 ((Ch.of_base h_l).take at_1) ⟨by first | omega | (simp only [List.length_append, List.length_nil, List.length_take, List.length_drop, List.length_cons]; omega), by first | omega | (simp only [List.length_append, List.length_nil, List.length_take, List.length_drop, List.length_cons]; omega)⟩ (n := ([] : List (Ah × TA)).length) (m := (l.take at_1).length) (k := fun ax13 cx13 Bx13 hox13 => ?_)
    have hal13 : (([] : List (Ah × TA)) ++ (l.take at_1)).length = ([] : List (Ah × TA)).length + (l.take at_1).length := by first | rfl | exact List.length_append | simp
    refine Mo ?_
    refine Xy ?_
    refine Qm ?_
    refine Ar ((([] : List (Ah × TA)) ++ (l.take at_1)) ++ ([x] : List (Ah × TA))) rfl Ip underlying32 Bt hox13 q0 (Ch.lit (xs := ([x] : List (Ah × TA))) Bt) ⟨by first | omega | (simp only [List.length_append, List.length_nil, List.length_take, List.length_drop, List.length_cons]; omega), by first | omega | (simp only [List.length_append, List.length_nil, List.length_take, List.length_drop, List.length_cons]; omega)⟩ (n := (([] : List (Ah × TA)) ++ (l.take at_1)).length) (m := 1) (k := fun ax14 cx14 Bx14 hox14 => ?_)
    have hal14 : ((([] : List (Ah × TA)) ++ (l.take at_1)) ++ ([x] : List (Ah × TA))).length = (([] : List (Ah × TA)) ++ (l.take at_1)).length + 1 := by first | rfl | exact List.length_append | simp
    refine Mo ?_
    refine Xz ?_
    refine Qm ?_
    refine Ar (((([] : List (Ah × TA)) ++ (l.take at_1)) ++ ([x] : List (Ah × TA))) ++ (l.drop at_1)) rfl Ip underlying32 Bt hox14 q0 (Ch.off cF at_1 l_c Zm) ⟨by first | omega | (simp only [List.length_append, List.length_nil, List.length_take, List.length_drop, List.length_cons]; omega), by first | omega | (simp only [List.length_append, List.length_nil, List.length_take, List.length_drop, List.length_cons]; omega)⟩ (n := ((([] : List (Ah × TA)) ++ (l.take at_1)) ++ ([x] : List (Ah × TA))).length) (m := (l.drop at_1).length) (k := fun ax15 cx15 Bx15 hox15 => ?_)
    have hal15 : (((([] : List (Ah × TA)) ++ (l.take at_1)) ++ ([x] : List (Ah × TA))) ++ (l.drop at_1)).length = ((([] : List (Ah × TA)) ++ (l.take at_1)) ++ ([x] : List (Ah × TA))).length + (l.drop at_1).length := by first | rfl | exact List.length_append | simp
    refine Mo ?_
    refine Zt ?_
    refine Pc ?_
    refine qP ?_
    refine qZ ?_
    refine Z0 ?_
    refine Xx ?_
    refine lV ?_
    refine Ac results182 U8 (fun w1 hw1 => ?_)
    exact ⟨ax15, cx15, Bx15, (rq ((((((hF.rn1 (hF3.neg hq1)).pos hq20).neg hq21).neg hq28).neg hq29).neg hq30)), (Aq (L := Bx15) (hw1.perm (List.Perm.refl _)) rfl), (by rw [((((((hF.rn1 (hF3.neg hq1)).pos hq20).neg hq21).neg hq28).neg hq29).neg hq30).eq]; exact hox15)⟩
   refine Lq ?_
   have hld22 : ((l.drop at_1).drop 1).length = (l.drop at_1).length - 1 := List.length_drop
   refine AJ6 ?_
   refine rM ?_
   refine Mp ?_
   have hl23 : (l.take at_1).length = at_1 := by rw [List.length_take]; omega
   refine rS ?_
   refine Gf Ae U7 (k := fun r10 hr10 => ?_)
   refine Gf Ae z43 (k := fun r11 hr11 => ?_)
   refine qV ?_
   refine Yg ?_
   refine Ql ?_
   refine Bd rfl (fun hq24 => ?_) (fun hq24 => ?_)
   ·exfalso
    omega
   refine Br ?_
   refine Xy ?_
   refine Ql ?_
   refine Bd rfl (fun hq25 => ?_) (fun hq25 => ?_)
   ·exfalso
    omega
   refine Br ?_
   refine Xz ?_
   refine Ql ?_
   refine Bd rfl (fun hq26 => ?_) (fun hq26 => ?_)
   ·exfalso
    omega
   refine lY ?_
   refine AL5 ?_
   rintro w1_5 e1_5 w2_5 hw1_5 ⟨a1_5, c1_5, B1_5, he_5, hf_5, ho1_5⟩
   refine ⟨_, _, he_5, hw1_5.fresh hf_5, ?_⟩
   refine Yg ?_
   refine Qm ?_
   refine Ar (([] : List (Ah × TA)) ++ (l.take at_1)) rfl Ip underlying32 Bt ho1_5 q0 ((Ch.of_base h_l).take at_1) ⟨by first | omega | (simp only [List.length_append, List.length_nil, List.length_take, List.length_drop, List.length_cons]; omega), by first | omega | (simp only [List.length_append, List.length_nil, List.length_take, List.length_drop, List.length_cons]; omega)⟩ (n := ([] : List (Ah × TA)).length) (m := (l.take at_1).length) (k := fun ax10 cx10 Bx10 hox10 => ?_)
   have hal10 : (([] : List (Ah × TA)) ++ (l.take at_1)).length = ([] : List (Ah × TA)).length + (l.take at_1).length := by first | rfl | exact List.length_append | simp
   refine Mo ?_
   refine Xy ?_
   refine Qm ?_
   refine Ar ((([] : List (Ah × TA)) ++ (l.take at_1)) ++ ([x] : List (Ah × TA))) rfl Ip underlying32 Bt hox10 q0 (Ch.lit (xs := ([x] : List (Ah × TA))) Bt) ⟨by first | omega | (simp only [List.length_append, List.length_nil, List.length_take, List.length_drop, List.length_cons]; omega), by first | omega | (simp only [List.length_append, List.length_nil, List.length_take, List.length_drop, List.length_cons]; omega)⟩ (n := (([] : List (Ah × TA)) ++ (l.take at_1)).length) (m := 1) (k := fun ax11 cx11 Bx11 hox11 => ?_)
   have hal11 : ((([] : List (Ah × TA)) ++ (l.take at_1)) ++ ([x] : List (Ah × TA))).length = (([] : List (Ah × TA)) ++ (l.take at_1)).length + 1 := by first | rfl | exact List.length_append | simp
   refine Mo ?_
   refine Xz ?_
   refine Qm ?_
   refine Ar (((([] : List (Ah × TA)) ++ (l.take at_1)) ++ ([x] : List (Ah × TA))) ++ ((l.drop at_1).drop 1)) rfl Ip underlying32 Bt hox11 q0 (Ch.off (Ch.off cF at_1 l_c Zm) 1 (l_c - at_1) Zm) ⟨by first | omega | (simp only [List.length_append, List.length_nil, List.length_take, List.length_drop, List.length_cons]; omega), by first | omega | (simp only [List.length_append, List.length_nil, List.length_take, List.length_drop, List.length_cons]; omega)⟩ (n := ((([] : List (Ah × TA)) ++ (l.take at_1)) ++ ([x] : List (Ah × TA))).length) (m := ((l.drop at_1).drop 1).length) (k := fun ax12 cx12 Bx12 hox12 => ?_)
   have hal12 : (((([] : List (Ah × TA)) ++ (l.take at_1)) ++ ([x] : List (Ah × TA))) ++ ((l.drop at_1).drop 1)).length = ((([] : List (Ah × TA)) ++ (l.take at_1)) ++ ([x] : List (Ah × TA))).length + ((l.drop at_1).drop 1).length := by first | rfl | exact List.length_append | simp
   refine Mo ?_
   refine Zt ?_
   refine Pc ?_
   refine qP ?_
   refine qZ ?_
   refine Z0 ?_
   refine Xx ?_
   refine lV ?_
   refine Ac results182 U8 (fun w1 hw1 => ?_)
   exact ⟨ax12, cx12, Bx12, (rq ((((((hF.rn1 (hF3.neg hq1)).pos hq20).pos hq21).neg hq24).neg hq25).neg hq26)), (Aq (L := Bx12) (hw1.perm (List.Perm.refl _)) rfl), (by rw [((((((hF.rn1 (hF3.neg hq1)).pos hq20).pos hq21).neg hq24).neg hq25).neg hq26).eq]; exact hox12)⟩
  refine Bj (Al Py) (k := ?_)
  refine Bj (Bb isAgg32) (k := ?_)
  refine Pd ?_
  refine Bj (Dl (n := l.length) runUnderlying32 sizeOf50 at_1 cF (gD Da) Lp) (k := ?_)
  refine Bj (Wi Li) (k := ?_)
  refine Bj (Wi Vk) (k := ?_)
  refine Bj (Cr isAgg3 at_1 0 cF (gD Da)) (k := ?_)
  refine Bj (Al Li) (k := ?_)
  refine Bj (Al Vk) (k := ?_)
  refine jH ?_
  refine Bj Mx (k := ?_)
  refine iY ?_
  refine Bd rfl (fun hq2 => ?_) (fun hq2 => ?_)
  ·refine Br ?_
   refine Gv ?_
   refine Fm ?_
   refine Lq ?_
   refine rT ?_
   refine Eu ?_
   exact Hw n_2 (at_1 + 1) ⟨by omega, ((hF3.pos hq1).pos hq2), z8⟩ (Nat.lt_succ_self _) se (List.Perm.refl _)
  refine Cu ?_
  refine Kg ?_
  refine Z2 ?_
  refine vJ ?_
  refine Cg ?_
  have hld3 : (l.drop at_1).length = l.length - at_1 := List.length_drop
  refine AJ7 ?_
  refine Z55 ?_
  refine Fi ?_
  refine Ay (Dg runUnderlying32) (k := ?_)
  refine Ay Uh (k := ?_)
  refine Fi ?_
  refine Ge 34 rfl (fun hq4 => ?_) (fun hq4 => ?_)
  rotate_left
  ·refine Bl 9 rfl ?_
   refine cM ?_
   refine Pa ?_
   refine Ez ?_
   refine rM ?_
   refine Mp ?_
   have hl15 : (l.take at_1).length = at_1 := by rw [List.length_take]; omega
   refine rS ?_
   refine Gf Ae U7 (k := fun r8 hr8 => ?_)
   refine Gf Ae z43 (k := fun r9 hr9 => ?_)
   refine qV ?_
   refine Yg ?_
   refine Ql ?_
   refine Bd rfl (fun hq16 => ?_) (fun hq16 => ?_)
   ·exfalso
    omega
   refine Br ?_
   refine Xy ?_
   refine Ql ?_
   refine Bd rfl (fun hq17 => ?_) (fun hq17 => ?_)
   ·exfalso
    omega
   refine Br ?_
   refine Xz ?_
   refine Ql ?_
   refine Bd rfl (fun hq18 => ?_) (fun hq18 => ?_)
   ·exfalso
    omega
   refine lY ?_
   refine C2 ?_
   rintro w1_4 e1_4 w2_4 hw1_4 ⟨a1_4, c1_4, B1_4, he_4, hf_4, ho1_4⟩
   refine ⟨_, _, he_4, hw1_4.fresh hf_4, ?_⟩
   refine Yg ?_
   refine Qm ?_
   refine Ar (([] : List (Ah × TA)) ++ (l.take at_1)) rfl Ip underlying32 Bt ho1_4 q0 ((Ch.of_base h_l).take at_1) ⟨by first | omega | (simp only [List.length_append, List.length_nil, List.length_take, List.length_drop, List.length_cons]; omega), by first | omega | (simp only [List.length_append, List.length_nil, List.length_take, List.length_drop, List.length_cons]; omega)⟩ (n := ([] : List (Ah × TA)).length) (m := (l.take at_1).length) (k := fun ax7 cx7 Bx7 hox7 => ?_)
   have hal7 : (([] : List (Ah × TA)) ++ (l.take at_1)).length = ([] : List (Ah × TA)).length + (l.take at_1).length := by first | rfl | exact List.length_append | simp
   refine Mo ?_
   refine Xy ?_
   refine Qm ?_
   refine Ar ((([] : List (Ah × TA)) ++ (l.take at_1)) ++ ([x] : List (Ah × TA))) rfl Ip underlying32 Bt hox7 q0 (Ch.lit (xs := ([x] : List (Ah × TA))) Bt) ⟨by first | omega | (simp only [List.length_append, List.length_nil, List.length_take, List.length_drop, List.length_cons]; omega), by first | omega | (simp only [List.length_append, List.length_nil, List.length_take, List.length_drop, List.length_cons]; omega)⟩ (n := (([] : List (Ah × TA)) ++ (l.take at_1)).length) (m := 1) (k := fun ax8 cx8 Bx8 hox8 => ?_)
   have hal8 : ((([] : List (Ah × TA)) ++ (l.take at_1)) ++ ([x] : List (Ah × TA))).length = (([] : List (Ah × TA)) ++ (l.take at_1)).length + 1 := by first | rfl | exact List.length_append | simp
   refine Mo ?_
   refine Xz ?_
   refine Qm ?_
   refine Ar (((([] : List (Ah × TA)) ++ (l.take at_1)) ++ ([x] : List (Ah × TA))) ++ (l.drop at_1)) rfl Ip underlying32 Bt hox8 q0 (Ch.off cF at_1 l_c Zm) ⟨by first | omega | (simp only [List.length_append, List.length_nil, List.length_take, List.length_drop, List.length_cons]; omega), by first | omega | (simp only [List.length_append, List.length_nil, List.length_take, List.length_drop, List.length_cons]; omega)⟩ (n := ((([] : List (Ah × TA)) ++ (l.take at_1)) ++ ([x] : List (Ah × TA))).length) (m := (l.drop at_1).length) (k := fun ax9 cx9 Bx9 hox9 => ?_)
   have hal9 : (((([] : List (Ah × TA)) ++ (l.take at_1)) ++ ([x] : List (Ah × TA))) ++ (l.drop at_1)).length = ((([] : List (Ah × TA)) ++ (l.take at_1)) ++ ([x] : List (Ah × TA))).length + (l.drop at_1).length := by first | rfl | exact List.length_append | simp
   refine Mo ?_
   refine Zt ?_
   refine Pc ?_
   refine qP ?_
   refine qZ ?_
   refine Z0 ?_
   refine Xx ?_
   refine lV ?_
   refine Ac results182 U8 (fun w1 hw1 => ?_)
   exact ⟨ax9, cx9, Bx9, (rq (((((hF.rn1 ((hF3.pos hq1).neg hq2)).neg hq4).neg hq16).neg hq17).neg hq18)), (Aq (L := Bx9) (hw1.perm (List.Perm.refl _)) rfl), (by rw [(((((hF.rn1 ((hF3.pos hq1).neg hq2)).neg hq4).neg hq16).neg hq17).neg hq18).eq]; exact hox9)⟩
  refine Pd ?_
  refine AL2 ?_
  refine AL9 ?_
  refine Bj (Al Li) (k := ?_)
  refine Bj (Al Vk) (k := ?_)
  refine vO ?_
  refine iY ?_
  refine Bd rfl (fun hq5 => ?_) (fun hq5 => ?_)
  rotate_left
  ·refine Br ?_
   refine Gv ?_
   refine Ez ?_
   refine rM ?_
   refine Mp ?_
   have hl11 : (l.take at_1).length = at_1 := by rw [List.length_take]; omega
   refine rS ?_
   refine Gf Ae U7 (k := fun r6 hr6 => ?_)
   refine Gf Ae z43 (k := fun r7 hr7 => ?_)
   refine qV ?_
   refine Yg ?_
   refine Ql ?_
   refine Bd rfl (fun hq12 => ?_) (fun hq12 => ?_)
   ·exfalso
    omega
   refine Br ?_
   refine Xy ?_
   refine Ql ?_
   refine Bd rfl (fun hq13 => ?_) (fun hq13 => ?_)
   ·exfalso
    omega
   refine Br ?_
   refine Xz ?_
   refine Ql ?_
   refine Bd rfl (fun hq14 => ?_) (fun hq14 => ?_)
   ·exfalso
    omega
   refine lY ?_
   refine C2 ?_
   rintro w1_3 e1_3 w2_3 hw1_3 ⟨a1_3, c1_3, B1_3, he_3, hf_3, ho1_3⟩
   refine ⟨_, _, he_3, hw1_3.fresh hf_3, ?_⟩
   refine Yg ?_
   refine Qm ?_
   refine Ar (([] : List (Ah × TA)) ++ (l.take at_1)) rfl Ip underlying32 Bt ho1_3 q0 ((Ch.of_base h_l).take at_1) ⟨by first | omega | (simp only [List.length_append, List.length_nil, List.length_take, List.length_drop, List.length_cons]; omega), by first | omega | (simp only [List.length_append, List.length_nil, List.length_take, List.length_drop, List.length_cons]; omega)⟩ (n := ([] : List (Ah × TA)).length) (m := (l.take at_1).length) (k := fun ax4 cx4 Bx4 hox4 => ?_)
   have hal4 : (([] : List (Ah × TA)) ++ (l.take at_1)).length = ([] : List (Ah × TA)).length + (l.take at_1).length := by first | rfl | exact List.length_append | simp
   refine Mo ?_
   refine Xy ?_
   refine Qm ?_
   refine Ar ((([] : List (Ah × TA)) ++ (l.take at_1)) ++ ([x] : List (Ah × TA))) rfl Ip underlying32 Bt hox4 q0 (Ch.lit (xs := ([x] : List (Ah × TA))) Bt) ⟨by first | omega | (simp only [List.length_append, List.length_nil, List.length_take, List.length_drop, List.length_cons]; omega), by first | omega | (simp only [List.length_append, List.length_nil, List.length_take, List.length_drop, List.length_cons]; omega)⟩ (n := (([] : List (Ah × TA)) ++ (l.take at_1)).length) (m := 1) (k := fun ax5 cx5 Bx5 hox5 => ?_)
   have hal5 : ((([] : List (Ah × TA)) ++ (l.take at_1)) ++ ([x] : List (Ah × TA))).length = (([] : List (Ah × TA)) ++ (l.take at_1)).length + 1 := by first | rfl | exact List.length_append | simp
   refine Mo ?_
   refine Xz ?_
   refine Qm ?_
   refine Ar (((([] : List (Ah × TA)) ++ (l.take at_1)) ++ ([x] : List (Ah × TA))) ++ (l.drop at_1)) rfl Ip underlying32 Bt hox5 q0 (Ch.off cF at_1 l_c Zm) ⟨by first | omega | (simp only [List.length_append, List.length_nil, List.length_take, List.length_drop, List.length_cons]; omega), by first | omega | (simp only [List.length_append, List.length_nil, List.length_take, List.length_drop, List.length_cons]; omega)⟩ (n := ((([] : List (Ah × TA)) ++ (l.take at_1)) ++ ([x] : List (Ah × TA))).length) (m := (l.drop at_1).length) (k := fun ax6 cx6 Bx6 hox6 => ?_)
   have hal6 : (((([] : List (Ah × TA)) ++ (l.take at_1)) ++ ([x] : List (Ah × TA))) ++ (l.drop at_1)).length = ((([] : List (Ah × TA)) ++ (l.take at_1)) ++ ([x] : List (Ah × TA))).length + (l.drop at_1).length := by first | rfl | exact List.length_append | simp
   refine Mo ?_
   refine Zt ?_
   refine Pc ?_
   refine qP ?_
   refine qZ ?_
   refine Z0 ?_
   refine Xx ?_
   refine lV ?_
   refine Ac results182 U8 (fun w1 hw1 => ?_)
   exact ⟨ax6, cx6, Bx6, (rq ((((((hF.rn1 ((hF3.pos hq1).neg hq2)).pos hq4).neg hq5).neg hq12).neg hq13).neg hq14)), (Aq (L := Bx6) (hw1.perm (List.Perm.refl _)) rfl), (by rw [((((((hF.rn1 ((hF3.pos hq1).neg hq2)).pos hq4).neg hq5).neg hq12).neg hq13).neg hq14).eq]; exact hox6)⟩
  refine Lq ?_
  have hld6 : ((l.drop at_1).drop 1).length = (l.drop at_1).length - 1 := List.length_drop
  refine AJ6 ?_
  refine rM ?_
  refine Mp ?_
  have hl7 : (l.take at_1).length = at_1 := by rw [List.length_take]; omega
  refine rS ?_
  refine Gf Ae U7 (k := fun r4 hr4 => ?_)
  refine Gf Ae z43 (k := fun r5 hr5 => ?_)
  refine qV ?_
  refine Yg ?_
  refine Ql ?_
  refine Bd rfl (fun hq8 => ?_) (fun hq8 => ?_)
  ·exfalso
   omega
  refine Br ?_
  refine Xy ?_
  refine Ql ?_
  refine Bd rfl (fun hq9 => ?_) (fun hq9 => ?_)
  ·exfalso
   omega
  refine Br ?_
  refine Xz ?_
  refine Ql ?_
  refine Bd rfl (fun hq10 => ?_) (fun hq10 => ?_)
  ·exfalso
   omega
  refine lY ?_
  refine AL5 ?_
  rintro w1_2 e1_2 w2_2 hw1_2 ⟨a1_2, c1_2, B1_2, he_2, hf_2, ho1_2⟩
  refine ⟨_, _, he_2, hw1_2.fresh hf_2, ?_⟩
  refine Yg ?_
  refine Qm ?_
  refine Ar (([] : List (Ah × TA)) ++ (l.take at_1)) rfl Ip underlying32 Bt ho1_2 q0 ((Ch.of_base h_l).take at_1) ⟨by first | omega | (simp only [List.length_append, List.length_nil, List.length_take, List.length_drop, List.length_cons]; omega), by first | omega | (simp only [List.length_append, List.length_nil, List.length_take, List.length_drop, List.length_cons]; omega)⟩ (n := ([] : List (Ah × TA)).length) (m := (l.take at_1).length) (k := fun ax1 cx1 Bx1 hox1 => ?_)
  have hal1 : (([] : List (Ah × TA)) ++ (l.take at_1)).length = ([] : List (Ah × TA)).length + (l.take at_1).length := by first | rfl | exact List.length_append | simp
  refine Mo ?_
  refine Xy ?_
  refine Qm ?_
  refine Ar ((([] : List (Ah × TA)) ++ (l.take at_1)) ++ ([x] : List (Ah × TA))) rfl Ip underlying32 Bt hox1 q0 (Ch.lit (xs := ([x] : List (Ah × TA))) Bt) ⟨by first | omega | (simp only [List.length_append, List.length_nil, List.length_take, List.length_drop, List.length_cons]; omega), by first | omega | (simp only [List.length_append, List.length_nil, List.length_take, List.length_drop, List.length_cons]; omega)⟩ (n := (([] : List (Ah × TA)) ++ (l.take at_1)).length) (m := 1) (k := fun ax2 cx2 Bx2 hox2 => ?_)
  have hal2 : ((([] : List (Ah × TA)) ++ (l.take at_1)) ++ ([x] : List (Ah × TA))).length = (([] : List (Ah × TA)) ++ (l.take at_1)).length + 1 := by first | rfl | exact List.length_append | simp
  refine Mo ?_
  refine Xz ?_
  refine Qm ?_
  refine Ar (((([] : List (Ah × TA)) ++ (l.take at_1)) ++ ([x] : List (Ah × TA))) ++ ((l.drop at_1).drop 1)) rfl Ip underlying32 Bt hox2 q0 (Ch.off (Ch.off cF at_1 l_c Zm) 1 (l_c - at_1) Zm) ⟨by first | omega | (simp only [List.length_append, List.length_nil, List.length_take, List.length_drop, List.length_cons]; omega), by first | omega | (simp only [List.length_append, List.length_nil, List.length_take, List.length_drop, List.length_cons]; omega)⟩ (n := ((([] : List (Ah × TA)) ++ (l.take at_1)) ++ ([x] : List (Ah × TA))).length) (m := ((l.drop at_1).drop 1).length) (k := fun ax3 cx3 Bx3 hox3 => ?_)
  have hal3 : (((([] : List (Ah × TA)) ++ (l.take at_1)) ++ ([x] : List (Ah × TA))) ++ ((l.drop at_1).drop 1)).length = ((([] : List (Ah × TA)) ++ (l.take at_1)) ++ ([x] : List (Ah × TA))).length + ((l.drop at_1).drop 1).length := by first | rfl | exact List.length_append | simp
  refine Mo ?_
  refine Zt ?_
  refine Pc ?_
  refine qP ?_
  refine qZ ?_
  refine Z0 ?_
  refine Xx ?_
  refine lV ?_
  refine Ac results182 U8 (fun w1 hw1 => ?_)
  exact ⟨ax3, cx3, Bx3, (rq ((((((hF.rn1 ((hF3.pos hq1).neg hq2)).pos hq4).pos hq5).neg hq8).neg hq9).neg hq10)), (Aq (L := Bx3) (hw1.perm (List.Perm.refl _)) rfl), (by rw [((((((hF.rn1 ((hF3.pos hq1).neg hq2)).pos hq4).pos hq5).neg hq8).neg hq9).neg hq10).eq]; exact hox3)⟩

end Go.Proofs.YtdnjanhdnibkfaaGreatDoor.Jd

namespace Go.Proofs.YtdnjanhdnibkfaaGreatDoor.Jd
open Go.Proofs.Tryz
set_option linter.unusedVariables false
set_option linter.unusedSimpArgs false
set_option maxRecDepth 10000
theorem tK : Ed 3 = [1, 2, 3, 4, 5, 6, 7, 8, 9, 10] := by decide
theorem tL : Ed 2 = [2, 3, 4, 8, 9, 10] := by decide
theorem tM : Ed 1 = [9, 10] := by decide
theorem tN {n : Int} (h3 : n ≠ 3) (h2 : n ≠ 2) (h1 : n ≠ 1) : Ed n = [] := by
  have : Mg n = 0 := by unfold Mg; rw [if_neg h3, if_neg h2, if_neg h1]
  unfold Ed
  rw [this]
  decide
theorem Vs (n v : Int) : ∀ f i, (Ed n).length < i + f → i ≤ (Ed n).length → (Fg (Ok n v f i) (fun r => r) (fun _ => false) = true ↔ v ∈ (Ed n).drop i)
  | 0, i, h1, h2 => by omega
  | f + 1, i, h1, h2 => by
    unfold Ok
    by_cases hi : i < (Ed n).length
    · rw [if_pos z8, Ig hi]
      by_cases hv : (Ed n).getD i default = v
      · rw [if_pos hv, hv]; simp [Fg]
      · rw [if_neg hv, Vs n v f (i + 1) z8 z8, List.mem_cons]
        exact ⟨.inr, fun h => h.resolve_left fun e => hv e.symm⟩
    · rw [if_neg z8, List.drop_eq_nil_of_le z8]; simp [Fg]
theorem tO (n v : Int) : dZ n v = true ↔ v ∈ Ed n := Vs n v _ 0 z8 z8
theorem P6 {n v : Int} (h : dZ n v = true) : 1 ≤ v ∧ v ≤ 10 := by
  rw [tO] at h
  by_cases h3 : n = 3
  · subst h3; rw [tK] at h; simp at h; omega
  by_cases h2 : n = 2
  · subst h2; rw [tL] at h; simp at h; omega
  by_cases h1 : n = 1
  · subst h1; rw [tM] at h; simp at h; omega
  rw [tN h3 h2 h1] at h; cases h
/-- What must be of a tenant in a registry of a Seq. -/
structure eL (seq : Int) (t : Ah) : Prop where
  name : Pu t.name = true
  version : 1 ≤ t.version ∧ t.version ≤ seq
  state : 1 ≤ t.state ∧ t.state ≤ 3
  deadline : 0 ≤ t.deadline ∧ t.deadline ≤ 1000000000000
  drains : t.deadline = 0 ∨ t.state = 3
  rules : Hv t.rules = true
  creds : Mh t.creds = true
/-- Which registries are right. -/
structure AG0 (r : Bs) : Prop where
  slots : La r.slots = true
  seq : 0 ≤ r.seq ∧ r.seq ≤ 1000000000000
  hs : r.l.map Ah.handle = Ss r.slots
  names : (r.l.map Ah.name).Nodup
  ok : ∀ t ∈ r.l, eL r.seq t
theorem eM {seq : Int} {t : Ah} : eL seq t ↔ Ic (t, seq) = true ∧ Ie (t, seq) = true ∧ Mi (t, seq) = true := by
  unfold Ic Ie Mi
  constructor
  · rintro ⟨h1, h2, h3, h4, h5, h6, h7⟩
    refine ⟨?_, ?_, ?_⟩
    · rw [if_pos h2.1]; simpa using h2.2
    · simp only [h3.1, h3.2, h4.1, h4.2, if_true]
      split
      · rfl
      · simpa using h5.resolve_left Zn
    · simp only [h1, h6, h7, if_true]
  · rintro ⟨h1, h2, h3⟩
    simp only at h1 h2 h3
    have a1 : 1 ≤ t.version ∧ t.version ≤ seq := by
      split at h1
      · exact ⟨by assumption, by simpa using h1⟩
      · cases h1
    have a2 : (1 ≤ t.state ∧ t.state ≤ 3) ∧ (0 ≤ t.deadline ∧ t.deadline ≤ 1000000000000) ∧ (t.deadline = 0 ∨ t.state = 3) := by
      repeat' split at h2
      all_goals first | (cases h2; done) | skip
      · exact ⟨⟨by assumption, by assumption⟩, ⟨by assumption, by assumption⟩, .inl Zn⟩
      · exact ⟨⟨by assumption, by assumption⟩, ⟨by assumption, by assumption⟩, .inr (by simpa using h2)⟩
    have a3 : Pu t.name = true ∧ Hv t.rules = true ∧ Mh t.creds = true := by
      repeat' split at h3
      all_goals first | (cases h3; done) | skip
      exact ⟨by assumption, by assumption, h3⟩
    exact ⟨a3.1, a1, a2.1, a2.2.1, a2.2.2, a3.2.1, a3.2.2⟩
theorem Oa (r : Bs) : ∀ n i (acc : List Ai), r.l.length < i + n → i ≤ r.l.length → (Ho (Lo r n i acc) (fun r => r) (fun _ _ => true) = true ↔ (∀ k, i ≤ k → k < r.l.length → (r.l.getD k default).handle = (Ss r.slots).getD k default ∧ eL r.seq (r.l.getD k default)) ∧ (∀ t ∈ r.l.drop i, t.name ∉ acc) ∧ ((r.l.drop i).map Ah.name).Nodup)
  | 0, i, acc, h1, h2 => by omega
  | n + 1, i, acc, h1, h2 => by
    unfold Lo
    by_cases hi : i < r.l.length
    · rw [if_pos z8, Ig hi]
      generalize ht : r.l.getD i default = t
      generalize hh : (Ss r.slots).getD i default = h
      have hbad : ¬ (t.handle = h ∧ eL r.seq t) → ¬ (∀ k, i ≤ k → k < r.l.length → (r.l.getD k default).handle = (Ss r.slots).getD k default ∧ eL r.seq (r.l.getD k default)) := fun hn ha => hn (by
        have := ha i (Nat.le_refl _) hi
        rwa [ht, hh] at this)
      by_cases hs : t.handle.slot = h.slot ∧ t.handle.gen = h.gen
      · have he : t.handle = h := by
          obtain ⟨e1, e2⟩ := hs
          cases hth : t.handle; cases h; simp_all
        rw [if_neg (by simpa using hs)]
        by_cases hm : t.name ∈ acc
        · rw [if_pos hm]
          simp only [Ho]
          exact ⟨nofun, fun ⟨_, h3, _⟩ => absurd hm (h3 t List.mem_cons_self)⟩
        · rw [if_neg hm]
          by_cases hT : eL r.seq t
          · obtain ⟨c1, c2, c3⟩ := eM.1 hT
            rw [c1, c2, c3]
            simp only [Bool.not_true, Bool.false_eq_true, if_false]
            rw [Oa r n (i + 1) _ z8 z8, List.map_cons, List.nodup_cons]
            constructor
            · rintro ⟨g1, g2, g3⟩
              refine ⟨fun k hk hl => ?_, fun u hu => ?_, ?_, g3⟩
              · by_cases e : k = i
                · subst e; rw [ht, hh]; exact ⟨he, hT⟩
                · exact g1 k z8 hl
              · rcases List.mem_cons.1 hu with rfl | hu
                · exact hm
                · exact fun hc => g2 u hu (List.mem_append_left _ hc)
              · intro hc
                obtain ⟨u, hu, e⟩ := List.mem_map.1 hc
                exact g2 u hu (List.mem_append_right _ (by simp [e]))
            · rintro ⟨g1, g2, g3, g4⟩
              refine ⟨fun k hk hl => g1 k z8 hl, fun u hu hc => ?_, g4⟩
              rcases List.mem_append.1 hc with hc | hc
              · exact g2 u (List.mem_cons_of_mem _ hu) hc
              · exact g3 (List.mem_map.2 ⟨u, hu, by simpa using hc⟩)
          · have hb := hbad fun h => hT h.2
            have hx : ¬ (Ic (t, r.seq) = true ∧ Ie (t, r.seq) = true ∧ Mi (t, r.seq) = true) := fun h => hT (eM.2 h)
            cases c1 : Ic (t, r.seq)
            · simp only [Bool.not_false, if_true, Ho]; exact ⟨nofun, fun h => absurd h.1 hb⟩
            cases c2 : Ie (t, r.seq)
            · simp only [Bool.not_false, Bool.not_true, Bool.false_eq_true, if_true, if_false, Ho]; exact ⟨nofun, fun h => absurd h.1 hb⟩
            cases c3 : Mi (t, r.seq)
            · simp only [Bool.not_false, Bool.not_true, Bool.false_eq_true, if_true, if_false, Ho]; exact ⟨nofun, fun h => absurd h.1 hb⟩
            exact absurd ⟨c1, c2, c3⟩ hx
      · rw [if_pos (by simpa using hs)]
        simp only [Ho]
        exact ⟨nofun, fun hc => absurd hc.1 (hbad fun h2 => hs (by rw [h2.1]; exact ⟨rfl, rfl⟩))⟩
    · rw [if_neg z8, List.drop_eq_nil_of_le z8]
      simp only [Ho, List.map_nil, List.nodup_nil, and_true, List.not_mem_nil, false_implies, implies_true, true_and]
      exact ⟨fun _ k h3 h4 => by omega, fun _ => trivial⟩
theorem eN {α β : Type} [Inhabited α] [Inhabited β] {f : α → β} {xs : List α} {ys : List β} (hl : ys.length = xs.length) : (∀ k, k < xs.length → f (xs.getD k default) = ys.getD k default) ↔ xs.map f = ys := by
  constructor
  · intro h
    refine List.ext_getElem (by simp [hl]) fun k h1 h2 => ?_
    have := h k (by simpa using h1)
    simpa [List.getD, show k < xs.length by simpa using h1, h2] using this
  · rintro rfl k hk
    simp [List.getD, hk]
theorem oN {r : Bs} : Tq r = true ↔ AG0 r := by
  unfold Tq
  constructor
  · intro h
    split at h
    · cases h
    rename_i h1
    split at h
    · cases h
    split at h
    · cases h
    split at h
    · cases h
    rename_i h2 h3 h4
    obtain ⟨g1, _, g3⟩ := (Oa r _ 0 [] z8 z8).1 h
    refine ⟨by simpa using h1, ⟨by omega, by omega⟩, (eN z8).1 fun k hk => (g1 k z8 hk).1, by simpa using g3, fun t ht => ?_⟩
    obtain ⟨k, hk, rfl⟩ := List.getElem_of_mem ht
    have := (g1 k z8 hk).2
    simpa [List.getD, hk] using this
  · rintro ⟨h1, h2, h3, h4, h5⟩
    have hl : (Ss r.slots).length = r.l.length := by rw [← h3]; simp
    rw [h1, if_neg Hs, if_neg z8, if_neg z8, if_neg z8]
    refine (Oa r _ 0 [] z8 z8).2 ⟨fun k _ hk => ⟨(eN hl).2 h3 k hk, ?_⟩, fun t _ => by simp, by simpa using h4⟩
    refine h5 _ ?_
    rw [List.getD_eq_getElem?_getD, List.getElem?_eq_getElem hk]; exact List.getElem_mem hk
theorem zL {r : Bs} (h : Tq r = true) : r.l.length ≤ 64 ∧ r.slots.gens.length ≤ 64 ∧ r.slots.used.length ≤ 64 ∧ r.slots.free.length ≤ 64 ∧ 0 ≤ r.seq ∧ r.seq ≤ 1000000000000 := by
  have h' := oN.1 h
  have e := congrArg List.length h'.hs
  rw [List.length_map] at e
  have := yJ r.slots
  have h3 := Vj h'.slots
  exact ⟨by omega, by omega, by omega, by omega, h'.seq⟩
end Go.Proofs.YtdnjanhdnibkfaaGreatDoor.Jd

namespace Go.Proofs.YtdnjanhdnibkfaaGreatDoor.Jd
open Go.Proofs.Tryz
open Go.Proofs
open Go.RowKit (Below)
set_option maxRecDepth 100000
set_option maxHeartbeats 8000000
set_option linter.unusedVariables false
set_option linter.unusedSimpArgs false
theorem P7 : Ba Tryz.prog 76 0 0 := fun r k w => by simp [Instr.fieldAt, Instr.sureAddr, fieldPlace, Ao]
theorem pX : Ba Tryz.prog 86 0 0 := fun r k w => by simp [Instr.fieldAt, Instr.sureAddr, fieldPlace, Ao]
theorem gZ : Ba Tryz.prog 86 1 1 := fun r k w => by simp [Instr.fieldAt, Instr.sureAddr, fieldPlace, Ao]
theorem P8 : Ba Tryz.prog 86 5 9 := fun r k w => by simp [Instr.fieldAt, Instr.sureAddr, fieldPlace, Ao]
theorem P9 : Ba Tryz.prog 86 6 10 := fun r k w => by simp [Instr.fieldAt, Instr.sureAddr, fieldPlace, Ao]
theorem U4 : Ej Tryz.prog 76 [(0, 1), (1, 1), (2, 2), (4, 1), (5, 1)] := ⟨_, fun w => runUnderlying76 w, fun w => by simp⟩
theorem Q0 (w : World) {s0a : Option Addr} {s0n : Nat} {s0c : Nat} {s1a : Option Addr} {s1n : Nat} {s1c : Nat} {s2a : Option Addr} {s2n : Nat} {s2c : Nat} {q_ : Int} {l_a : Option Addr} {l_c : Nat} {xs : List Ah} {ts : List TA} {x : Ah} {v : TA} (h : cG w Fo 8 DT l_a xs ts) (n : xs.length ≤ 1000) (k : xs.length ≤ l_c) :
  Calls Tryz.prog 182 (List.toArray [(Value.agg [(vs s0a s0n s0c), (vs s1a s1n s1c), (vs s2a s2n s2c), (vs l_a xs.length l_c), (vi q_)].toArray), (Value.agg [(vi x.handle.slot), (vi x.handle.gen), (vt x.name), (vi x.state), (vi x.version), (vs v.ra x.rules.length v.rc), (vs v.ca x.creds.length v.cc), (vi x.deadline)].toArray)]) w fun e w2 => ∃ a1 : Option Addr, ∃ c1 : Nat, ∃ B1 : Am, e = .returned (Value.agg [(vs s0a s0n s0c), (vs s1a s1n s1c), (vs s2a s2n s2c), (vs a1 (St xs x).length c1), (vi q_)].toArray) ∧ Dz w w2 B1 ∧ Bi Fo 8 50 a1 c1 B1 (List.zip (St xs x) (bS xs ts x v)) := by
 have hz := Kd h.1
 have h2 := P5 w (s0a := s0a) (s0n := s0n) (s0c := s0c) (s1a := s1a) (s1n := s1n) (s1c := s1c) (s2a := s2a) (s2n := s2n) (s2c := s2c) (q_ := q_) (l_a := l_a) (l_c := l_c) (l := List.zip xs ts) (x := (x, v)) h.2.1 (by rw [hz]; exact n) (by rw [hz]; exact k)
 rw [hz, zG x v h.1, Kd (Xp xs ts x v h.1)] at h2
 exact h2
end Go.Proofs.YtdnjanhdnibkfaaGreatDoor.Jd

namespace Go.Proofs.YtdnjanhdnibkfaaGreatDoor.Jd
open Go.Proofs.Tryz
set_option linter.unusedVariables false
set_option linter.unusedSimpArgs false
theorem Xa {l : List Ah} : Gq l ↔ ∀ t ∈ l, t.rules.length ≤ 1000 ∧ t.creds.length ≤ 1000 := by
  constructor
  · intro h t ht
    obtain ⟨k, hk, rfl⟩ := List.getElem_of_mem ht
    have := h k hk
    simpa [List.getD, hk] using this
  · intro h i hi
    refine h _ ?_
    rw [List.getD_eq_getElem?_getD, List.getElem?_eq_getElem hi]; exact List.getElem_mem hi
theorem Gq.nil : Gq [] := fun i hi => by simp at hi
theorem Gq.at {l : List Ah} (h : Gq l) (i : Nat) : (l.getD i default).rules.length ≤ 1000 ∧ (l.getD i default).creds.length ≤ 1000 := by
  by_cases hi : i < l.length
  · exact h i hi
  · have e : l.getD i default = default := by rw [List.getD_eq_getElem?_getD, List.getElem?_eq_none z8]; rfl
    rw [e]; exact ⟨by decide, by decide⟩
theorem Gq.cons {t : Ah} {l : List Ah} (h1 : t.rules.length ≤ 1000 ∧ t.creds.length ≤ 1000) (h : Gq l) : Gq (t :: l) := by
  rw [Xa] at h ⊢
  intro u hu
  rcases List.mem_cons.1 hu with rfl | hu
  · exact h1
  · exact h u hu
theorem Gq.take {a : List Ah} (h : Gq a) (n : Nat) : Gq (a.take n) := by
  rw [Xa] at h ⊢
  exact fun u hu => h u (List.mem_of_mem_take hu)
theorem Gq.drop {a : List Ah} (h : Gq a) (n : Nat) : Gq (a.drop n) := by
  rw [Xa] at h ⊢
  exact fun u hu => h u (List.mem_of_mem_drop hu)
end Go.Proofs.YtdnjanhdnibkfaaGreatDoor.Jd

namespace Go.Proofs.YtdnjanhdnibkfaaGreatDoor.Jd
open Go.Proofs.Tryz
open Go.Proofs
open Go.RowKit (Below)
set_option maxRecDepth 100000
set_option maxHeartbeats 8000000
set_option linter.unusedVariables false
set_option linter.unusedSimpArgs false
theorem Zi : Ba Tryz.prog 28 0 0 := fun r k w => by simp [Instr.fieldAt, Instr.sureAddr, fieldPlace, Ao]
theorem Sh : Ba Tryz.prog 28 1 1 := fun r k w => by simp [Instr.fieldAt, Instr.sureAddr, fieldPlace, Ao]
theorem Zj : Ba Tryz.prog 28 2 2 := fun r k w => by simp [Instr.fieldAt, Instr.sureAddr, fieldPlace, Ao]
theorem zM : Ba Tryz.prog 146 0 0 := fun r k w => by simp [Instr.fieldAt, Instr.sureAddr, fieldPlace, Ao]
theorem zN : Ba Tryz.prog 146 1 1 := fun r k w => by simp [Instr.fieldAt, Instr.sureAddr, fieldPlace, Ao]
theorem pY : Ej Tryz.prog 28 [(0, 1), (1, 1), (2, 1)] := ⟨_, fun w => runUnderlying28 w, fun w => by simp⟩
theorem AG1 : Ej Tryz.prog 146 [(0, 1), (1, 1)] := ⟨_, fun w => runUnderlying146 w, fun w => by simp⟩
theorem zO (a0 b0 : Int) (a1 b1 : Int) (a2 b2 : Ai) (n : Nat) (w : World) : (Op.equalIn (n + 2) 28 (Value.agg [vi a0, vi a1, Value.string (bs a2)].toArray) (Value.agg [vi b0, vi b1, Value.string (bs b2)].toArray)).run Tryz.prog w = .ok (decide (a0 = b0 ∧ a1 = b1 ∧ a2 = b2)) w := by
 rw [show n + 2 = (n + 1) + 1 from rfl]
 unfold Op.equalIn
 simp [part, fU (P := Tryz.prog) (t := 3) n .i64 _ _ runUnderlying3, dT (P := Tryz.prog) (t := 9) n _ _ runUnderlying9]
 by_cases h0 : a0 = b0 <;> by_cases h1 : a1 = b1 <;> by_cases h2 : a2 = b2 <;> simp_all
theorem AP5 (x y : Operand) (a0 b0 : Int) (a1 b1 : Int) (a2 b2 : Ai) (w : World) : (do eqGuard .eql 28 x y (Value.agg [vi a0, vi a1, Value.string (bs a2)].toArray) (Value.agg [vi b0, vi b1, Value.string (bs b2)].toArray); binOp .eql 28 (Value.agg [vi a0, vi a1, Value.string (bs a2)].toArray) (Value.agg [vi b0, vi b1, Value.string (bs b2)].toArray) : Sem Value).run Tryz.prog w = .ok (.bool (decide (a0 = b0 ∧ a1 = b1 ∧ a2 = b2))) w := by
 have h2 : (binOp .eql 28 (Value.agg [vi a0, vi a1, Value.string (bs a2)].toArray) (Value.agg [vi b0, vi b1, Value.string (bs b2)].toArray)).run Tryz.prog w = .ok (.bool (decide (a0 = b0 ∧ a1 = b1 ∧ a2 = b2))) w := by
  show (do pure (.bool (← Op.equal 28 _ _)) : Sem Value).run Tryz.prog w = _
  simp only [Sem.run_bind, Op.equal, Op.maxDepth, zO a0 b0 a1 b1 a2 b2 9998, Result.andThen_ok, Sem.run_pure]
 simp [eqGuard]
 simpa using h2
theorem AP6 (x y : Operand) (a0 b0 : Int) (a1 b1 : Int) (a2 b2 : Ai) (w : World) : (do eqGuard .neq 28 x y (Value.agg [vi a0, vi a1, Value.string (bs a2)].toArray) (Value.agg [vi b0, vi b1, Value.string (bs b2)].toArray); binOp .neq 28 (Value.agg [vi a0, vi a1, Value.string (bs a2)].toArray) (Value.agg [vi b0, vi b1, Value.string (bs b2)].toArray) : Sem Value).run Tryz.prog w = .ok (.bool (decide (¬ (a0 = b0 ∧ a1 = b1 ∧ a2 = b2)))) w := by
 have h2 : (binOp .neq 28 (Value.agg [vi a0, vi a1, Value.string (bs a2)].toArray) (Value.agg [vi b0, vi b1, Value.string (bs b2)].toArray)).run Tryz.prog w = .ok (.bool (decide (¬ (a0 = b0 ∧ a1 = b1 ∧ a2 = b2)))) w := by
  show (do pure (.bool (!(← Op.equal 28 _ _))) : Sem Value).run Tryz.prog w = _
  simp only [Sem.run_bind, Op.equal, Op.maxDepth, zO a0 b0 a1 b1 a2 b2 9998, Result.andThen_ok, Sem.run_pure]
  congr 2
  simp
 simp [eqGuard]
 simpa using h2
theorem bV (w : World)  : Calls Tryz.prog 70 (List.toArray []) w fun e w2 => ∃ r : Nat, ∃ es : Array MapEntry, ∃ ck : Nat, e = .returned (Value.map (some r)) ∧ Dz w w2 [(r, Obj.map es ck)] ∧ Hg (fun x : Int => vi x) es ([(1, (Value.agg [(vi 1), (vi 64)].toArray)), (2, (Value.agg [(vi 32), (vi 32)].toArray)), (3, (Value.agg [(vi 1), (vi 64)].toArray)), (4, (Value.agg [(vi 1), (vi 512)].toArray)), (5, (Value.agg [(vi 2), (vi 2)].toArray)), (6, (Value.agg [(vi 0), (vi 0)].toArray)), (7, (Value.agg [(vi 0), (vi 0)].toArray)), (8, (Value.agg [(vi 0), (vi 8)].toArray))] : List (Int × Value)) := by
 have hF := Is.refl ()
 refine enter func70 ntmps70 (h := ?_)
 refine Jn ?_
 refine Aj Ae Sx (k := fun r1 hr1 => ?_)
 refine jK ?_
 refine Fs (ml := ([] : List (Int × Value))) 1 Bo runUnderlying148 runUnderlying3 (Hg.nil (enc := fun x : Int => vi x)) Hs q0 (k := fun em1 km1 hms1 => ?_)
 refine jK ?_
 refine Fs (ml := ([(1, (Value.agg [(vi 1), (vi 64)].toArray))] : List (Int × Value))) 2 Bo runUnderlying148 runUnderlying3 hms1 Hs q0 (k := fun em2 km2 hms2 => ?_)
 refine jK ?_
 refine Fs (ml := ([(1, (Value.agg [(vi 1), (vi 64)].toArray)), (2, (Value.agg [(vi 32), (vi 32)].toArray))] : List (Int × Value))) 3 Bo runUnderlying148 runUnderlying3 hms2 Hs q0 (k := fun em3 km3 hms3 => ?_)
 refine jK ?_
 refine Fs (ml := ([(1, (Value.agg [(vi 1), (vi 64)].toArray)), (2, (Value.agg [(vi 32), (vi 32)].toArray)), (3, (Value.agg [(vi 1), (vi 64)].toArray))] : List (Int × Value))) 4 Bo runUnderlying148 runUnderlying3 hms3 Hs q0 (k := fun em4 km4 hms4 => ?_)
 refine jK ?_
 refine Fs (ml := ([(1, (Value.agg [(vi 1), (vi 64)].toArray)), (2, (Value.agg [(vi 32), (vi 32)].toArray)), (3, (Value.agg [(vi 1), (vi 64)].toArray)), (4, (Value.agg [(vi 1), (vi 512)].toArray))] : List (Int × Value))) 5 Bo runUnderlying148 runUnderlying3 hms4 Hs q0 (k := fun em5 km5 hms5 => ?_)
 refine jK ?_
 refine Fs (ml := ([(1, (Value.agg [(vi 1), (vi 64)].toArray)), (2, (Value.agg [(vi 32), (vi 32)].toArray)), (3, (Value.agg [(vi 1), (vi 64)].toArray)), (4, (Value.agg [(vi 1), (vi 512)].toArray)), (5, (Value.agg [(vi 2), (vi 2)].toArray))] : List (Int × Value))) 6 Bo runUnderlying148 runUnderlying3 hms5 Hs q0 (k := fun em6 km6 hms6 => ?_)
 refine jK ?_
 refine Fs (ml := ([(1, (Value.agg [(vi 1), (vi 64)].toArray)), (2, (Value.agg [(vi 32), (vi 32)].toArray)), (3, (Value.agg [(vi 1), (vi 64)].toArray)), (4, (Value.agg [(vi 1), (vi 512)].toArray)), (5, (Value.agg [(vi 2), (vi 2)].toArray)), (6, (Value.agg [(vi 0), (vi 0)].toArray))] : List (Int × Value))) 7 Bo runUnderlying148 runUnderlying3 hms6 Hs q0 (k := fun em7 km7 hms7 => ?_)
 refine jK ?_
 refine Fs (ml := ([(1, (Value.agg [(vi 1), (vi 64)].toArray)), (2, (Value.agg [(vi 32), (vi 32)].toArray)), (3, (Value.agg [(vi 1), (vi 64)].toArray)), (4, (Value.agg [(vi 1), (vi 512)].toArray)), (5, (Value.agg [(vi 2), (vi 2)].toArray)), (6, (Value.agg [(vi 0), (vi 0)].toArray)), (7, (Value.agg [(vi 0), (vi 0)].toArray))] : List (Int × Value))) 8 Bo runUnderlying148 runUnderlying3 hms7 Hs q0 (k := fun em8 km8 hms8 => ?_)
 refine Cg ?_
 refine Z5 ?_
 refine Ac results70 z1 (fun w1 hw1 => ?_)
 exact ⟨r1, em8, km8, rfl, (Aq (L := [(r1, Obj.map em8 km8)]) (hw1.perm (List.Perm.refl _)) rfl), hms8⟩

theorem oO (w : World) {f : Frame} : Gz Tryz.prog 30 [(Value.agg [(vi f.kind), (vi f.stream), (vt f.data)].toArray)] w (Value.bool (Gc f)) := by
 have hF := Is.refl (Gc f)
 refine enter func30 ntmps30 (h := ?_)
 refine Z2 ?_
 refine Aj Ae Lb (k := fun r1 hr1 => ?_)
 refine Oy ?_
 refine Jj ?_
 refine pD (σ1 := Bool) (σ2 := Nat) (σ3 := Nat) (σ4 := Nat) (fun ok_1 x_2 x_3 r162 => ((r162, oc [(vi ((x_2 : Nat) : Int)), (vi ((x_3 : Nat) : Int))] 146) :: ((r1, oc [(vi f.kind), (vi f.stream), (vt f.data)] 28) :: []))) (fun ok_1 x_2 x_3 r162 => [(1, (Value.pointer (some ⟨r1, 0, none⟩))), (2, (Value.bool false)), (3, (Value.func (.func 69) [].toArray [].toArray)), (4, (Value.pointer (some ⟨r162, 0, none⟩))), (5, (Value.bool ok_1))]) (fun ok_1 x_2 x_3 r162 => Is (Is.xr3 hF) (ok_1, x_2, x_3)) ?_ ?_
 ·skip
  refine Ui (V := []) mixed 10 z6 ?_
  refine Ci 1 rfl z6 (Al Zi) (k := ?_)
  refine Ci 2 rfl z6 (Bb isAgg3) (k := ?_)
  refine Bn [0, 7] z6 rfl (List.forall_mem_cons.2 ⟨?_, (List.forall_mem_cons.2 ⟨?_, nofun⟩)⟩)
  ·skip
   refine sD rfl (Aa call70) (fun w1 hw1 => bV w1) (k := ?_)
   rintro w1_21 e1_21 w2_21 hw1_21 ⟨rm_21, em_21, km_21, he_21, hf_21, hm_21⟩
   refine ⟨_, _, _, he_21, hf_21, rfl, ?_⟩
   by_cases hq1 : f.kind = 1
   ·refine Ci 3 rfl z6 (Cy (l := ([(1, (Value.agg [(vi 1), (vi 64)].toArray)), (2, (Value.agg [(vi 32), (vi 32)].toArray)), (3, (Value.agg [(vi 1), (vi 64)].toArray)), (4, (Value.agg [(vi 1), (vi 512)].toArray)), (5, (Value.agg [(vi 2), (vi 2)].toArray)), (6, (Value.agg [(vi 0), (vi 0)].toArray)), (7, (Value.agg [(vi 0), (vi 0)].toArray)), (8, (Value.agg [(vi 0), (vi 8)].toArray))] : List (Int × Value))) (v := (Value.agg [(vi 1), (vi 64)].toArray)) f.kind Bo runUnderlying148 runUnderlying3 zeroValue146 hm_21 (Bv hq1.symm)) (k := ?_)
    refine Vw ?_
    refine Bn [7] z6 rfl (List.forall_mem_cons.2 ⟨?_, nofun⟩)
    ·skip
     refine Hp rfl Ae A6 (k := fun r162 hr162 => ?_)
     refine Bn [8] z6 rfl (List.forall_mem_cons.2 ⟨?_, nofun⟩)
     ·skip
      refine Qk ?_
      exact Cz true 1 64 r162 ((Is.refl (Is.xr3 hF)).pos hq1) se (List.Perm.refl _)
   by_cases hq2 : f.kind = 2
   ·refine Ci 3 rfl z6 (Cy (l := ([(1, (Value.agg [(vi 1), (vi 64)].toArray)), (2, (Value.agg [(vi 32), (vi 32)].toArray)), (3, (Value.agg [(vi 1), (vi 64)].toArray)), (4, (Value.agg [(vi 1), (vi 512)].toArray)), (5, (Value.agg [(vi 2), (vi 2)].toArray)), (6, (Value.agg [(vi 0), (vi 0)].toArray)), (7, (Value.agg [(vi 0), (vi 0)].toArray)), (8, (Value.agg [(vi 0), (vi 8)].toArray))] : List (Int × Value))) (v := (Value.agg [(vi 32), (vi 32)].toArray)) f.kind Bo runUnderlying148 runUnderlying3 zeroValue146 hm_21 ((Af (fun e => hq1 e.symm)).trans (Bv hq2.symm))) (k := ?_)
    refine Vw ?_
    refine Bn [7] z6 rfl (List.forall_mem_cons.2 ⟨?_, nofun⟩)
    ·skip
     refine Hp rfl Ae A6 (k := fun r162 hr162 => ?_)
     refine Bn [8] z6 rfl (List.forall_mem_cons.2 ⟨?_, nofun⟩)
     ·skip
      refine Qk ?_
      exact Cz true 32 32 r162 (((Is.refl (Is.xr3 hF)).neg hq1).pos hq2) se (List.Perm.refl _)
   by_cases hq3 : f.kind = 3
   ·refine Ci 3 rfl z6 (Cy (l := ([(1, (Value.agg [(vi 1), (vi 64)].toArray)), (2, (Value.agg [(vi 32), (vi 32)].toArray)), (3, (Value.agg [(vi 1), (vi 64)].toArray)), (4, (Value.agg [(vi 1), (vi 512)].toArray)), (5, (Value.agg [(vi 2), (vi 2)].toArray)), (6, (Value.agg [(vi 0), (vi 0)].toArray)), (7, (Value.agg [(vi 0), (vi 0)].toArray)), (8, (Value.agg [(vi 0), (vi 8)].toArray))] : List (Int × Value))) (v := (Value.agg [(vi 1), (vi 64)].toArray)) f.kind Bo runUnderlying148 runUnderlying3 zeroValue146 hm_21 ((Af (fun e => hq1 e.symm)).trans ((Af (fun e => hq2 e.symm)).trans (Bv hq3.symm)))) (k := ?_)
    refine Vw ?_
    refine Bn [7] z6 rfl (List.forall_mem_cons.2 ⟨?_, nofun⟩)
    ·skip
     refine Hp rfl Ae A6 (k := fun r162 hr162 => ?_)
     refine Bn [8] z6 rfl (List.forall_mem_cons.2 ⟨?_, nofun⟩)
     ·skip
      refine Qk ?_
      exact Cz true 1 64 r162 ((((Is.refl (Is.xr3 hF)).neg hq1).neg hq2).pos hq3) se (List.Perm.refl _)
   by_cases hq4 : f.kind = 4
   ·refine Ci 3 rfl z6 (Cy (l := ([(1, (Value.agg [(vi 1), (vi 64)].toArray)), (2, (Value.agg [(vi 32), (vi 32)].toArray)), (3, (Value.agg [(vi 1), (vi 64)].toArray)), (4, (Value.agg [(vi 1), (vi 512)].toArray)), (5, (Value.agg [(vi 2), (vi 2)].toArray)), (6, (Value.agg [(vi 0), (vi 0)].toArray)), (7, (Value.agg [(vi 0), (vi 0)].toArray)), (8, (Value.agg [(vi 0), (vi 8)].toArray))] : List (Int × Value))) (v := (Value.agg [(vi 1), (vi 512)].toArray)) f.kind Bo runUnderlying148 runUnderlying3 zeroValue146 hm_21 ((Af (fun e => hq1 e.symm)).trans ((Af (fun e => hq2 e.symm)).trans ((Af (fun e => hq3 e.symm)).trans (Bv hq4.symm))))) (k := ?_)
    refine Vw ?_
    refine Bn [7] z6 rfl (List.forall_mem_cons.2 ⟨?_, nofun⟩)
    ·skip
     refine Hp rfl Ae A6 (k := fun r162 hr162 => ?_)
     refine Bn [8] z6 rfl (List.forall_mem_cons.2 ⟨?_, nofun⟩)
     ·skip
      refine Qk ?_
      exact Cz true 1 512 r162 (((((Is.refl (Is.xr3 hF)).neg hq1).neg hq2).neg hq3).pos hq4) se (List.Perm.refl _)
   by_cases hq5 : f.kind = 5
   ·refine Ci 3 rfl z6 (Cy (l := ([(1, (Value.agg [(vi 1), (vi 64)].toArray)), (2, (Value.agg [(vi 32), (vi 32)].toArray)), (3, (Value.agg [(vi 1), (vi 64)].toArray)), (4, (Value.agg [(vi 1), (vi 512)].toArray)), (5, (Value.agg [(vi 2), (vi 2)].toArray)), (6, (Value.agg [(vi 0), (vi 0)].toArray)), (7, (Value.agg [(vi 0), (vi 0)].toArray)), (8, (Value.agg [(vi 0), (vi 8)].toArray))] : List (Int × Value))) (v := (Value.agg [(vi 2), (vi 2)].toArray)) f.kind Bo runUnderlying148 runUnderlying3 zeroValue146 hm_21 ((Af (fun e => hq1 e.symm)).trans ((Af (fun e => hq2 e.symm)).trans ((Af (fun e => hq3 e.symm)).trans ((Af (fun e => hq4 e.symm)).trans (Bv hq5.symm)))))) (k := ?_)
    refine Vw ?_
    refine Bn [7] z6 rfl (List.forall_mem_cons.2 ⟨?_, nofun⟩)
    ·skip
     refine Hp rfl Ae A6 (k := fun r162 hr162 => ?_)
     refine Bn [8] z6 rfl (List.forall_mem_cons.2 ⟨?_, nofun⟩)
     ·skip
      refine Qk ?_
      exact Cz true 2 2 r162 ((((((Is.refl (Is.xr3 hF)).neg hq1).neg hq2).neg hq3).neg hq4).pos hq5) se (List.Perm.refl _)
   by_cases hq6 : f.kind = 6
   ·refine Ci 3 rfl z6 (Cy (l := ([(1, (Value.agg [(vi 1), (vi 64)].toArray)), (2, (Value.agg [(vi 32), (vi 32)].toArray)), (3, (Value.agg [(vi 1), (vi 64)].toArray)), (4, (Value.agg [(vi 1), (vi 512)].toArray)), (5, (Value.agg [(vi 2), (vi 2)].toArray)), (6, (Value.agg [(vi 0), (vi 0)].toArray)), (7, (Value.agg [(vi 0), (vi 0)].toArray)), (8, (Value.agg [(vi 0), (vi 8)].toArray))] : List (Int × Value))) (v := (Value.agg [(vi 0), (vi 0)].toArray)) f.kind Bo runUnderlying148 runUnderlying3 zeroValue146 hm_21 ((Af (fun e => hq1 e.symm)).trans ((Af (fun e => hq2 e.symm)).trans ((Af (fun e => hq3 e.symm)).trans ((Af (fun e => hq4 e.symm)).trans ((Af (fun e => hq5 e.symm)).trans (Bv hq6.symm))))))) (k := ?_)
    refine Vw ?_
    refine Bn [7] z6 rfl (List.forall_mem_cons.2 ⟨?_, nofun⟩)
    ·skip
     refine Hp rfl Ae A6 (k := fun r162 hr162 => ?_)
     refine Bn [8] z6 rfl (List.forall_mem_cons.2 ⟨?_, nofun⟩)
     ·skip
      refine Qk ?_
      exact Cz true 0 0 r162 (((((((Is.refl (Is.xr3 hF)).neg hq1).neg hq2).neg hq3).neg hq4).neg hq5).pos hq6) se (List.Perm.refl _)
   by_cases hq7 : f.kind = 7
   ·refine Ci 3 rfl z6 (Cy (l := ([(1, (Value.agg [(vi 1), (vi 64)].toArray)), (2, (Value.agg [(vi 32), (vi 32)].toArray)), (3, (Value.agg [(vi 1), (vi 64)].toArray)), (4, (Value.agg [(vi 1), (vi 512)].toArray)), (5, (Value.agg [(vi 2), (vi 2)].toArray)), (6, (Value.agg [(vi 0), (vi 0)].toArray)), (7, (Value.agg [(vi 0), (vi 0)].toArray)), (8, (Value.agg [(vi 0), (vi 8)].toArray))] : List (Int × Value))) (v := (Value.agg [(vi 0), (vi 0)].toArray)) f.kind Bo runUnderlying148 runUnderlying3 zeroValue146 hm_21 ((Af (fun e => hq1 e.symm)).trans ((Af (fun e => hq2 e.symm)).trans ((Af (fun e => hq3 e.symm)).trans ((Af (fun e => hq4 e.symm)).trans ((Af (fun e => hq5 e.symm)).trans ((Af (fun e => hq6 e.symm)).trans (Bv hq7.symm)))))))) (k := ?_)
    refine Vw ?_
    refine Bn [7] z6 rfl (List.forall_mem_cons.2 ⟨?_, nofun⟩)
    ·skip
     refine Hp rfl Ae A6 (k := fun r162 hr162 => ?_)
     refine Bn [8] z6 rfl (List.forall_mem_cons.2 ⟨?_, nofun⟩)
     ·skip
      refine Qk ?_
      exact Cz true 0 0 r162 ((((((((Is.refl (Is.xr3 hF)).neg hq1).neg hq2).neg hq3).neg hq4).neg hq5).neg hq6).pos hq7) se (List.Perm.refl _)
   by_cases hq8 : f.kind = 8
   ·refine Ci 3 rfl z6 (Cy (l := ([(1, (Value.agg [(vi 1), (vi 64)].toArray)), (2, (Value.agg [(vi 32), (vi 32)].toArray)), (3, (Value.agg [(vi 1), (vi 64)].toArray)), (4, (Value.agg [(vi 1), (vi 512)].toArray)), (5, (Value.agg [(vi 2), (vi 2)].toArray)), (6, (Value.agg [(vi 0), (vi 0)].toArray)), (7, (Value.agg [(vi 0), (vi 0)].toArray)), (8, (Value.agg [(vi 0), (vi 8)].toArray))] : List (Int × Value))) (v := (Value.agg [(vi 0), (vi 8)].toArray)) f.kind Bo runUnderlying148 runUnderlying3 zeroValue146 hm_21 ((Af (fun e => hq1 e.symm)).trans ((Af (fun e => hq2 e.symm)).trans ((Af (fun e => hq3 e.symm)).trans ((Af (fun e => hq4 e.symm)).trans ((Af (fun e => hq5 e.symm)).trans ((Af (fun e => hq6 e.symm)).trans ((Af (fun e => hq7 e.symm)).trans (Bv hq8.symm))))))))) (k := ?_)
    refine Vw ?_
    refine Bn [7] z6 rfl (List.forall_mem_cons.2 ⟨?_, nofun⟩)
    ·skip
     refine Hp rfl Ae A6 (k := fun r162 hr162 => ?_)
     refine Bn [8] z6 rfl (List.forall_mem_cons.2 ⟨?_, nofun⟩)
     ·skip
      refine Qk ?_
      exact Cz true 0 8 r162 (((((((((Is.refl (Is.xr3 hF)).neg hq1).neg hq2).neg hq3).neg hq4).neg hq5).neg hq6).neg hq7).pos hq8) se (List.Perm.refl _)
   refine Ci 3 rfl z6 (Pm (l := ([(1, (Value.agg [(vi 1), (vi 64)].toArray)), (2, (Value.agg [(vi 32), (vi 32)].toArray)), (3, (Value.agg [(vi 1), (vi 64)].toArray)), (4, (Value.agg [(vi 1), (vi 512)].toArray)), (5, (Value.agg [(vi 2), (vi 2)].toArray)), (6, (Value.agg [(vi 0), (vi 0)].toArray)), (7, (Value.agg [(vi 0), (vi 0)].toArray)), (8, (Value.agg [(vi 0), (vi 8)].toArray))] : List (Int × Value))) f.kind Bo runUnderlying148 runUnderlying3 zeroValue146 hm_21 ((Af (fun e => hq1 e.symm)).trans ((Af (fun e => hq2 e.symm)).trans ((Af (fun e => hq3 e.symm)).trans ((Af (fun e => hq4 e.symm)).trans ((Af (fun e => hq5 e.symm)).trans ((Af (fun e => hq6 e.symm)).trans ((Af (fun e => hq7 e.symm)).trans ((Af (fun e => hq8 e.symm)).trans Jv))))))))) (k := ?_)
   refine Vw ?_
   refine Bn [7] z6 rfl (List.forall_mem_cons.2 ⟨?_, nofun⟩)
   ·skip
    refine Hp rfl Ae A6 (k := fun r162 hr162 => ?_)
    refine Bn [8] z6 rfl (List.forall_mem_cons.2 ⟨?_, nofun⟩)
    ·skip
     refine Qk ?_
     exact Cz false 0 0 r162 (((((((((Is.refl (Is.xr3 hF)).neg hq1).neg hq2).neg hq3).neg hq4).neg hq5).neg hq6).neg hq7).neg hq8) se (List.Perm.refl _)
  ·skip
   refine Hp rfl Ae A6 (k := fun r162 hr162 => ?_)
   refine Bn [0] z6 rfl (List.forall_mem_cons.2 ⟨?_, nofun⟩)
   ·skip
    refine sD rfl (Aa call70) (fun w1 hw1 => bV w1) (k := ?_)
    rintro w1_21 e1_21 w2_21 hw1_21 ⟨rm_21, em_21, km_21, he_21, hf_21, hm_21⟩
    refine ⟨_, _, _, he_21, hf_21, rfl, ?_⟩
    by_cases hq9 : f.kind = 1
    ·refine Ci 3 rfl z6 (Cy (l := ([(1, (Value.agg [(vi 1), (vi 64)].toArray)), (2, (Value.agg [(vi 32), (vi 32)].toArray)), (3, (Value.agg [(vi 1), (vi 64)].toArray)), (4, (Value.agg [(vi 1), (vi 512)].toArray)), (5, (Value.agg [(vi 2), (vi 2)].toArray)), (6, (Value.agg [(vi 0), (vi 0)].toArray)), (7, (Value.agg [(vi 0), (vi 0)].toArray)), (8, (Value.agg [(vi 0), (vi 8)].toArray))] : List (Int × Value))) (v := (Value.agg [(vi 1), (vi 64)].toArray)) f.kind Bo runUnderlying148 runUnderlying3 zeroValue146 hm_21 (Bv hq9.symm)) (k := ?_)
     refine Vw ?_
     refine Bn [8] z6 rfl (List.forall_mem_cons.2 ⟨?_, nofun⟩)
     ·skip
      refine Qk ?_
      exact Cz true 1 64 r162 ((Is.refl (Is.xr3 hF)).pos hq9) se (List.Perm.refl _)
    by_cases hq10 : f.kind = 2
    ·refine Ci 3 rfl z6 (Cy (l := ([(1, (Value.agg [(vi 1), (vi 64)].toArray)), (2, (Value.agg [(vi 32), (vi 32)].toArray)), (3, (Value.agg [(vi 1), (vi 64)].toArray)), (4, (Value.agg [(vi 1), (vi 512)].toArray)), (5, (Value.agg [(vi 2), (vi 2)].toArray)), (6, (Value.agg [(vi 0), (vi 0)].toArray)), (7, (Value.agg [(vi 0), (vi 0)].toArray)), (8, (Value.agg [(vi 0), (vi 8)].toArray))] : List (Int × Value))) (v := (Value.agg [(vi 32), (vi 32)].toArray)) f.kind Bo runUnderlying148 runUnderlying3 zeroValue146 hm_21 ((Af (fun e => hq9 e.symm)).trans (Bv hq10.symm))) (k := ?_)
     refine Vw ?_
     refine Bn [8] z6 rfl (List.forall_mem_cons.2 ⟨?_, nofun⟩)
     ·skip
      refine Qk ?_
      exact Cz true 32 32 r162 (((Is.refl (Is.xr3 hF)).neg hq9).pos hq10) se (List.Perm.refl _)
    by_cases hq11 : f.kind = 3
    ·refine Ci 3 rfl z6 (Cy (l := ([(1, (Value.agg [(vi 1), (vi 64)].toArray)), (2, (Value.agg [(vi 32), (vi 32)].toArray)), (3, (Value.agg [(vi 1), (vi 64)].toArray)), (4, (Value.agg [(vi 1), (vi 512)].toArray)), (5, (Value.agg [(vi 2), (vi 2)].toArray)), (6, (Value.agg [(vi 0), (vi 0)].toArray)), (7, (Value.agg [(vi 0), (vi 0)].toArray)), (8, (Value.agg [(vi 0), (vi 8)].toArray))] : List (Int × Value))) (v := (Value.agg [(vi 1), (vi 64)].toArray)) f.kind Bo runUnderlying148 runUnderlying3 zeroValue146 hm_21 ((Af (fun e => hq9 e.symm)).trans ((Af (fun e => hq10 e.symm)).trans (Bv hq11.symm)))) (k := ?_)
     refine Vw ?_
     refine Bn [8] z6 rfl (List.forall_mem_cons.2 ⟨?_, nofun⟩)
     ·skip
      refine Qk ?_
      exact Cz true 1 64 r162 ((((Is.refl (Is.xr3 hF)).neg hq9).neg hq10).pos hq11) se (List.Perm.refl _)
    by_cases hq12 : f.kind = 4
    ·refine Ci 3 rfl z6 (Cy (l := ([(1, (Value.agg [(vi 1), (vi 64)].toArray)), (2, (Value.agg [(vi 32), (vi 32)].toArray)), (3, (Value.agg [(vi 1), (vi 64)].toArray)), (4, (Value.agg [(vi 1), (vi 512)].toArray)), (5, (Value.agg [(vi 2), (vi 2)].toArray)), (6, (Value.agg [(vi 0), (vi 0)].toArray)), (7, (Value.agg [(vi 0), (vi 0)].toArray)), (8, (Value.agg [(vi 0), (vi 8)].toArray))] : List (Int × Value))) (v := (Value.agg [(vi 1), (vi 512)].toArray)) f.kind Bo runUnderlying148 runUnderlying3 zeroValue146 hm_21 ((Af (fun e => hq9 e.symm)).trans ((Af (fun e => hq10 e.symm)).trans ((Af (fun e => hq11 e.symm)).trans (Bv hq12.symm))))) (k := ?_)
     refine Vw ?_
     refine Bn [8] z6 rfl (List.forall_mem_cons.2 ⟨?_, nofun⟩)
     ·skip
      refine Qk ?_
      exact Cz true 1 512 r162 (((((Is.refl (Is.xr3 hF)).neg hq9).neg hq10).neg hq11).pos hq12) se (List.Perm.refl _)
    by_cases hq13 : f.kind = 5
    ·refine Ci 3 rfl z6 (Cy (l := ([(1, (Value.agg [(vi 1), (vi 64)].toArray)), (2, (Value.agg [(vi 32), (vi 32)].toArray)), (3, (Value.agg [(vi 1), (vi 64)].toArray)), (4, (Value.agg [(vi 1), (vi 512)].toArray)), (5, (Value.agg [(vi 2), (vi 2)].toArray)), (6, (Value.agg [(vi 0), (vi 0)].toArray)), (7, (Value.agg [(vi 0), (vi 0)].toArray)), (8, (Value.agg [(vi 0), (vi 8)].toArray))] : List (Int × Value))) (v := (Value.agg [(vi 2), (vi 2)].toArray)) f.kind Bo runUnderlying148 runUnderlying3 zeroValue146 hm_21 ((Af (fun e => hq9 e.symm)).trans ((Af (fun e => hq10 e.symm)).trans ((Af (fun e => hq11 e.symm)).trans ((Af (fun e => hq12 e.symm)).trans (Bv hq13.symm)))))) (k := ?_)
     refine Vw ?_
     refine Bn [8] z6 rfl (List.forall_mem_cons.2 ⟨?_, nofun⟩)
     ·skip
      refine Qk ?_
      exact Cz true 2 2 r162 ((((((Is.refl (Is.xr3 hF)).neg hq9).neg hq10).neg hq11).neg hq12).pos hq13) se (List.Perm.refl _)
    by_cases hq14 : f.kind = 6
    ·refine Ci 3 rfl z6 (Cy (l := ([(1, (Value.agg [(vi 1), (vi 64)].toArray)), (2, (Value.agg [(vi 32), (vi 32)].toArray)), (3, (Value.agg [(vi 1), (vi 64)].toArray)), (4, (Value.agg [(vi 1), (vi 512)].toArray)), (5, (Value.agg [(vi 2), (vi 2)].toArray)), (6, (Value.agg [(vi 0), (vi 0)].toArray)), (7, (Value.agg [(vi 0), (vi 0)].toArray)), (8, (Value.agg [(vi 0), (vi 8)].toArray))] : List (Int × Value))) (v := (Value.agg [(vi 0), (vi 0)].toArray)) f.kind Bo runUnderlying148 runUnderlying3 zeroValue146 hm_21 ((Af (fun e => hq9 e.symm)).trans ((Af (fun e => hq10 e.symm)).trans ((Af (fun e => hq11 e.symm)).trans ((Af (fun e => hq12 e.symm)).trans ((Af (fun e => hq13 e.symm)).trans (Bv hq14.symm))))))) (k := ?_)
     refine Vw ?_
     refine Bn [8] z6 rfl (List.forall_mem_cons.2 ⟨?_, nofun⟩)
     ·skip
      refine Qk ?_
      exact Cz true 0 0 r162 (((((((Is.refl (Is.xr3 hF)).neg hq9).neg hq10).neg hq11).neg hq12).neg hq13).pos hq14) se (List.Perm.refl _)
    by_cases hq15 : f.kind = 7
    ·refine Ci 3 rfl z6 (Cy (l := ([(1, (Value.agg [(vi 1), (vi 64)].toArray)), (2, (Value.agg [(vi 32), (vi 32)].toArray)), (3, (Value.agg [(vi 1), (vi 64)].toArray)), (4, (Value.agg [(vi 1), (vi 512)].toArray)), (5, (Value.agg [(vi 2), (vi 2)].toArray)), (6, (Value.agg [(vi 0), (vi 0)].toArray)), (7, (Value.agg [(vi 0), (vi 0)].toArray)), (8, (Value.agg [(vi 0), (vi 8)].toArray))] : List (Int × Value))) (v := (Value.agg [(vi 0), (vi 0)].toArray)) f.kind Bo runUnderlying148 runUnderlying3 zeroValue146 hm_21 ((Af (fun e => hq9 e.symm)).trans ((Af (fun e => hq10 e.symm)).trans ((Af (fun e => hq11 e.symm)).trans ((Af (fun e => hq12 e.symm)).trans ((Af (fun e => hq13 e.symm)).trans ((Af (fun e => hq14 e.symm)).trans (Bv hq15.symm)))))))) (k := ?_)
     refine Vw ?_
     refine Bn [8] z6 rfl (List.forall_mem_cons.2 ⟨?_, nofun⟩)
     ·skip
      refine Qk ?_
      exact Cz true 0 0 r162 ((((((((Is.refl (Is.xr3 hF)).neg hq9).neg hq10).neg hq11).neg hq12).neg hq13).neg hq14).pos hq15) se (List.Perm.refl _)
    by_cases hq16 : f.kind = 8
    ·refine Ci 3 rfl z6 (Cy (l := ([(1, (Value.agg [(vi 1), (vi 64)].toArray)), (2, (Value.agg [(vi 32), (vi 32)].toArray)), (3, (Value.agg [(vi 1), (vi 64)].toArray)), (4, (Value.agg [(vi 1), (vi 512)].toArray)), (5, (Value.agg [(vi 2), (vi 2)].toArray)), (6, (Value.agg [(vi 0), (vi 0)].toArray)), (7, (Value.agg [(vi 0), (vi 0)].toArray)), (8, (Value.agg [(vi 0), (vi 8)].toArray))] : List (Int × Value))) (v := (Value.agg [(vi 0), (vi 8)].toArray)) f.kind Bo runUnderlying148 runUnderlying3 zeroValue146 hm_21 ((Af (fun e => hq9 e.symm)).trans ((Af (fun e => hq10 e.symm)).trans ((Af (fun e => hq11 e.symm)).trans ((Af (fun e => hq12 e.symm)).trans ((Af (fun e => hq13 e.symm)).trans ((Af (fun e => hq14 e.symm)).trans ((Af (fun e => hq15 e.symm)).trans (Bv hq16.symm))))))))) (k := ?_)
     refine Vw ?_
     refine Bn [8] z6 rfl (List.forall_mem_cons.2 ⟨?_, nofun⟩)
     ·skip
      refine Qk ?_
      exact Cz true 0 8 r162 (((((((((Is.refl (Is.xr3 hF)).neg hq9).neg hq10).neg hq11).neg hq12).neg hq13).neg hq14).neg hq15).pos hq16) se (List.Perm.refl _)
    refine Ci 3 rfl z6 (Pm (l := ([(1, (Value.agg [(vi 1), (vi 64)].toArray)), (2, (Value.agg [(vi 32), (vi 32)].toArray)), (3, (Value.agg [(vi 1), (vi 64)].toArray)), (4, (Value.agg [(vi 1), (vi 512)].toArray)), (5, (Value.agg [(vi 2), (vi 2)].toArray)), (6, (Value.agg [(vi 0), (vi 0)].toArray)), (7, (Value.agg [(vi 0), (vi 0)].toArray)), (8, (Value.agg [(vi 0), (vi 8)].toArray))] : List (Int × Value))) f.kind Bo runUnderlying148 runUnderlying3 zeroValue146 hm_21 ((Af (fun e => hq9 e.symm)).trans ((Af (fun e => hq10 e.symm)).trans ((Af (fun e => hq11 e.symm)).trans ((Af (fun e => hq12 e.symm)).trans ((Af (fun e => hq13 e.symm)).trans ((Af (fun e => hq14 e.symm)).trans ((Af (fun e => hq15 e.symm)).trans ((Af (fun e => hq16 e.symm)).trans Jv))))))))) (k := ?_)
    refine Vw ?_
    refine Bn [8] z6 rfl (List.forall_mem_cons.2 ⟨?_, nofun⟩)
    ·skip
     refine Qk ?_
     exact Cz false 0 0 r162 (((((((((Is.refl (Is.xr3 hF)).neg hq9).neg hq10).neg hq11).neg hq12).neg hq13).neg hq14).neg hq15).neg hq16) se (List.Perm.refl _)
 intro ok_1 x_2 x_3 r162 hJ4
 refine Gv ?_
 refine Z2 ?_
 refine Ad (Cf (cs := [_, _, _]) zeroValue28 pY) (k := ?_)
 refine Aj Ae (Bz (l := [_, _, _]) zeroValue28) (k := fun r222 hr222 => ?_)
 refine Eh (Bc (l' := [_, _, _]) sizeOf28) (k := ?_)
 refine Jk ?_
 refine Dw mixed 34 [(true, 0), (true, 1), (true, 2), (true, 3), (true, 4), (true, 5), (true, 6), (true, 7), (true, 8), (true, 9), (true, 10), (true, 11), (false, 12), (true, 13), (true, 14), (true, 15), (true, 16), (true, 17), (true, 18), (true, 19), (true, 20), (true, 21), (true, 22), (true, 23), (true, 24), (true, 25), (true, 26), (true, 28), (true, 29), (true, 30), (false, 27), (true, 31), (true, 32), (true, 33)] z6 ?_
 refine Ay (Bq isAgg28 sizeOf28) (k := ?_)
 refine Ay (Bq isAgg28 sizeOf28) (k := ?_)
 refine Ay (aY (AP6 _ _ _ _ _ _ _ _)) (k := ?_)
 refine Fi ?_
 refine Ge 18 rfl (fun hq17 => ?_) (fun hq17 => ?_)
 rotate_left
 ·refine K8 (k := ?_)
  refine eR ?_
  refine Bl 6 rfl ?_
  refine eR ?_
  refine fB ?_
  refine fB ?_
  refine Bl 7 rfl ?_
  refine Th ?_
  refine Ac results30 z1 (fun w1 hw1 => ?_)
  exact ⟨(rq ((hF.rn3 hJ4).neg hq17)), hw1.ext_out⟩
 refine Pd ?_
 refine Tf ?_
 refine Jz 21 rfl (fun hq18 => ?_) (fun hq18 => ?_)
 rotate_left
 ·refine Bl 6 rfl ?_
  refine eR ?_
  refine fB ?_
  refine fB ?_
  refine Bl 7 rfl ?_
  refine Th ?_
  refine Ac results30 z1 (fun w1 hw1 => ?_)
  exact ⟨(rq (((hF.rn3 hJ4).pos hq17).f hq18)), hw1.ext_out⟩
 refine Pd ?_
 refine Bj (Bq isAgg146 sizeOf146) (k := ?_)
 refine Bj (Al Zj) (k := ?_)
 refine Bj (Bb isAgg9) (k := ?_)
 refine Bj (fX runUnderlying9) (k := ?_)
 refine Yu (args := [_, _]) (Aa call69) func69 ntmps69 ?_
 refine Pe _ (eqp nE) ?_
 refine Z2 ?_
 refine Aj Ae hY (k := fun r223 hr223 => ?_)
 refine Mu ?_
 refine Ad (Al zM) (k := ?_)
 refine mI ?_
 refine Aw 9 rfl (fun hq19 => ?_) (fun hq19 => ?_)
 rotate_left
 ·refine Ag 4 rfl ?_
  refine Lr ?_
  refine Cc _ (sd (sk (sk (sk sz)))) ?_
  refine Kl _ _ results69 z1 (vp (List.Perm.refl _) nE) Xw ?_
  refine Tf ?_
  refine fB ?_
  refine fB ?_
  refine Bl 7 rfl ?_
  refine Th ?_
  refine Ac results30 z1 (fun w1 hw1 => ?_)
  exact ⟨(rq ((((hF.rn3 hJ4).pos hq17).t hq18).neg hq19)), hw1.ext_out⟩
 refine Ep ?_
 refine An (Al zN) (k := ?_)
 refine eW ?_
 refine Ry ?_
 refine Cc _ (sd (sk (sk (sk sz)))) ?_
 refine Kl _ _ results69 z1 (vp (List.Perm.refl _) nE) Xw ?_
 refine Tf ?_
 refine Ge 29 rfl (fun hq20 => ?_) (fun hq20 => ?_)
 rotate_left
 ·refine Bl 3 rfl ?_
  refine eR ?_
  refine fB ?_
  refine Bl 7 rfl ?_
  refine Th ?_
  refine Ac results30 z1 (fun w1 hw1 => ?_)
  exact ⟨(rq (((((hF.rn3 hJ4).pos hq17).t hq18).pos hq19).neg hq20)), hw1.ext_out⟩
 refine Bj (Al Sh) (k := ?_)
 refine jH ?_
 refine Bj My (k := ?_)
 refine Tf ?_
 refine Ge 34 rfl (fun hq21 => ?_) (fun hq21 => ?_)
 rotate_left
 ·refine Bl 3 rfl ?_
  refine eR ?_
  refine Bl 7 rfl ?_
  refine Th ?_
  refine Ac results30 z1 (fun w1 hw1 => ?_)
  exact ⟨(rq ((((((hF.rn3 hJ4).pos hq17).t hq18).pos hq19).pos hq20).neg hq21)), hw1.ext_out⟩
 refine Bj (Al Sh) (k := ?_)
 refine jH ?_
 refine Bj Oe (k := ?_)
 refine Tf ?_
 refine Ge 39 rfl (fun hq22 => ?_) (fun hq22 => ?_)
 rotate_left
 ·refine Bl 7 rfl ?_
  refine Th ?_
  refine Ac results30 z1 (fun w1 hw1 => ?_)
  exact ⟨(rq (((((((hF.rn3 hJ4).pos hq17).t hq18).pos hq19).pos hq20).pos hq21).neg hq22)), hw1.ext_out⟩
 refine Bj (Al Zi) (k := ?_)
 refine jH ?_
 refine Bj (Al Sh) (k := ?_)
 refine vO ?_
 refine Yu (args := [_]) (Aa call71) func71 ntmps71 ?_
 refine Pe _ (eqp nE) ?_
 refine Mq ?_
 refine Ad Gw (k := ?_)
 refine Cg ?_
 refine Aw 5 rfl (fun hq23 => ?_) (fun hq23 => ?_)
 ·refine Ag 2 rfl ?_
  refine Qq ?_
  refine Ag 2 rfl ?_
  refine Ry ?_
  refine X8 ?_
  refine mH ?_
  refine Ac results30 z1 (fun w1 hw1 => ?_)
  exact ⟨(rq ((((((((hF.rn3 hJ4).pos hq17).t hq18).pos hq19).pos hq20).pos hq21).pos hq22).pos hq23)), hw1.ext_out⟩
 refine Zu ?_
 refine Te ?_
 refine Aw 9 rfl (fun hq24 => ?_) (fun hq24 => ?_)
 ·refine Ag 2 rfl ?_
  refine Ry ?_
  refine X8 ?_
  refine mH ?_
  refine Ac results30 z1 (fun w1 hw1 => ?_)
  exact ⟨(rq (((((((((hF.rn3 hJ4).pos hq17).t hq18).pos hq19).pos hq20).pos hq21).pos hq22).neg hq23).pos hq24)), hw1.ext_out⟩
 refine Zu ?_
 refine Lr ?_
 refine X8 ?_
 refine mH ?_
 refine Ac results30 z1 (fun w1 hw1 => ?_)
 exact ⟨(rq (((((((((hF.rn3 hJ4).pos hq17).t hq18).pos hq19).pos hq20).pos hq21).pos hq22).neg hq23).neg hq24)), hw1.ext_out⟩

theorem zP (w : World) {s : Ai} : Gz Tryz.prog 146 [(vt s)] w (vi (zH s)) := by
 have hF := Is.refl (zH s)
 refine enter func146 ntmps146 (h := ?_)
 refine Qj ?_
 refine fJ ?_
 refine mL ?_
 refine Bd rfl (fun hq1 => ?_) (fun hq1 => ?_)
 ·refine Bw ?_
  refine Yf ?_
  refine Ac results146 z1 (fun w1 hw1 => ?_)
  exact ⟨(rq (hF.pos hq1)), hw1.ext_out⟩
 refine cQ ?_
 refine Ui (V := []) mixed 9 z6 ?_
 refine Ci 0 rfl z6 Fp (k := ?_)
 have hu7 := pF (s.getD 0 default)
 refine Ci 1 rfl z6 (fY (s := s) 0 runUnderlying9 Da) (k := ?_)
 refine Ci 4 rfl z6 Fp (k := ?_)
 have hu11 := pF (s.getD 1 default)
 refine Ci 5 rfl z6 (fY (s := s) 1 runUnderlying9 Da) (k := ?_)
 refine Bn [2, 6] z6 rfl (List.forall_mem_cons.2 ⟨?_, (List.forall_mem_cons.2 ⟨?_, nofun⟩)⟩)
 ·skip
  refine AL6 ?_
  refine Bn [6] z6 rfl (List.forall_mem_cons.2 ⟨?_, nofun⟩)
  ·skip
   refine AN4 ?_
   refine Ci 7 rfl z6 dM (k := ?_)
   refine Ci 8 rfl z6 Ir (k := ?_)
   refine jL ?_
   refine Fq nE ?_
   refine eQ ?_
   refine Ac results146 z1 (fun w1 hw1 => ?_)
   exact ⟨(rq (hF.neg hq1)), hw1.ext_out⟩
 ·skip
  refine AN4 ?_
  refine Bn [2] z6 rfl (List.forall_mem_cons.2 ⟨?_, nofun⟩)
  ·skip
   refine AL6 ?_
   refine Ci 7 rfl z6 dM (k := ?_)
   refine Ci 8 rfl z6 Ir (k := ?_)
   refine jL ?_
   refine Fq nE ?_
   refine eQ ?_
   refine Ac results146 z1 (fun w1 hw1 => ?_)
   exact ⟨(rq (hF.neg hq1)), hw1.ext_out⟩

theorem oP (w : World) {ea0 : Addr} {ea1 : Addr} {ea2 : Addr} {ea3 : Addr} {ea4 : Addr} {ea5 : Addr} {ea6 : Addr} {ea7 : Addr} {ea8 : Addr} {ea9 : Addr} {ea10 : Addr} {ea11 : Addr} {ea12 : Addr} {ea13 : Addr} {ea14 : Addr} {ea15 : Addr} {n_ : Int} (hG : Gl w) (hE : Er w ea0 ea1 ea2 ea3 ea4 ea5 ea6 ea7 ea8 ea9 ea10 ea11 ea12 ea13 ea14 ea15) : Gz Tryz.prog 143 [(vi n_)] w (Value.tuple [(vt ((Kf n_).1)), (vi ((Kf n_).2))].toArray) := by
 have hF := Is.refl (Kf n_)
 refine enter func143 ntmps143 (h := ?_)
 refine Z2 ?_
 refine Aj Ae Qh (k := fun r1 hr1 => ?_)
 refine Hr ?_
 refine Jj ?_
 refine Z2 ?_
 refine Hk ?_
 refine cH ?_
 refine Aw 7 rfl (fun hq1 => ?_) (fun hq1 => ?_)
 ·refine Ag 2 rfl ?_
  refine Ua ?_
  obtain ⟨Thgl2, fhgl2, hgl2⟩ := hE.v11
  refine mQ ?_
  refine Bh (args := [_]) (Aa call196) func196 ntmps196 ?_
  refine cW ?_
  obtain ⟨Thgl3, fhgl3, hgl3⟩ := hE.v11
  refine jF ?_
  refine AM3 ?_
  refine Ub ?_
  refine Av results196 z1 ?_
  refine Ks ?_
  refine Ac results143 (Bk.tmp rfl z1) (fun w1 hw1 => ?_)
  exact ⟨(rq (hF.pos hq1)), hw1.ext_out⟩
 refine uJ ?_
 refine Rx ?_
 refine Bd rfl (fun hq4 => ?_) (fun hq4 => ?_)
 ·refine Bw ?_
  refine Dn ?_
  obtain ⟨Thgl5, fhgl5, hgl5⟩ := hE.v11
  refine rX ?_
  refine Bh (args := [_]) (Aa call196) func196 ntmps196 ?_
  refine cW ?_
  obtain ⟨Thgl6, fhgl6, hgl6⟩ := hE.v11
  refine jG ?_
  refine AM3 ?_
  refine Ub ?_
  refine Av results196 z1 ?_
  refine Ks ?_
  refine Ac results143 (Bk.tmp rfl z1) (fun w1 hw1 => ?_)
  exact ⟨(rq ((hF.neg hq1).pos hq4)), hw1.ext_out⟩
 refine Qd ?_
 refine Vz ?_
 refine Mu ?_
 refine Bh (args := [_]) (Aa call197) func197 ntmps197 ?_
 refine Jn ?_
 refine Hk ?_
 refine Ad AO3 (k := ?_)
 refine Ad (Js rfl runUnderlying3 runUnderlying5) (k := ?_)
 refine Hk ?_
 refine Ad T8 (k := ?_)
 refine Ad (Js rfl runUnderlying3 runUnderlying5) (k := ?_)
 refine Aj Ae (Dd (l := [_, _]) runUnderlying174 sizeOf5 zeroValue5) (k := fun r2 hr2 => ?_)
 refine Ad (bA underlying9 underlying174 underlying5 (Ch.lit (xs := ([(IntKind.u8.wrap (n_ / 256)), (IntKind.u8.wrap (n_ % 256))] : List Int)) Bm)) (k := ?_)
 refine Z5 ?_
 refine Cc _ (sd (sk sz)) ?_
 refine Av results197 z1 ?_
 refine Zw ?_
 refine Ac results143 (Bk.tmp rfl z1) (fun w1 hw1 => ?_)
 exact ⟨(rq ((hF.neg hq1).neg hq4)), hw1.ext_out⟩

end Go.Proofs.YtdnjanhdnibkfaaGreatDoor.Jd

namespace Go.Proofs.YtdnjanhdnibkfaaGreatDoor.Jd
open Go.Proofs.Tryz
open Go.Proofs
open Go.RowKit (Below)
set_option maxRecDepth 100000
set_option maxHeartbeats 8000000
set_option linter.unusedVariables false
set_option linter.unusedSimpArgs false
theorem Lj : Ba Tryz.prog 26 0 0 := fun r k w => by simp [Instr.fieldAt, Instr.sureAddr, fieldPlace, Ao]
theorem Qa : Ba Tryz.prog 26 1 1 := fun r k w => by simp [Instr.fieldAt, Instr.sureAddr, fieldPlace, Ao]
theorem Vt : Ba Tryz.prog 26 2 2 := fun r k w => by simp [Instr.fieldAt, Instr.sureAddr, fieldPlace, Ao]
theorem pZ : Ba Tryz.prog 26 3 4 := fun r k w => by simp [Instr.fieldAt, Instr.sureAddr, fieldPlace, Ao]
theorem qA : Ba Tryz.prog 26 4 5 := fun r k w => by simp [Instr.fieldAt, Instr.sureAddr, fieldPlace, Ao]
theorem Q1 : Ba Tryz.prog 26 5 6 := fun r k w => by simp [Instr.fieldAt, Instr.sureAddr, fieldPlace, Ao]
theorem zQ : Ba Tryz.prog 136 0 0 := fun r k w => by simp [Instr.fieldAt, Instr.sureAddr, fieldPlace, Ao]
theorem lF : Ba Tryz.prog 136 1 1 := fun r k w => by simp [Instr.fieldAt, Instr.sureAddr, fieldPlace, Ao]
theorem zR : Ej Tryz.prog 26 [(0, 1), (1, 1), (2, 2), (4, 1), (5, 1), (6, 1)] := ⟨_, fun w => runUnderlying26 w, fun w => by simp⟩
theorem AG2 : Ej Tryz.prog 136 [(0, 1), (1, 1)] := ⟨_, fun w => runUnderlying136 w, fun w => by simp⟩
theorem Xq (w : World)  : Calls Tryz.prog 63 (List.toArray []) w fun e w2 => ∃ r : Nat, ∃ es : Array MapEntry, ∃ ck : Nat, e = .returned (Value.map (some r)) ∧ Dz w w2 [(r, Obj.map es ck)] ∧ Hg (fun x : Int => vi x) es ([(0, (Value.agg [(Value.bool false), (Value.bool false)].toArray)), (1, (Value.agg [(Value.bool true), (Value.bool false)].toArray)), (2, (Value.agg [(Value.bool true), (Value.bool true)].toArray)), (3, (Value.agg [(Value.bool false), (Value.bool false)].toArray))] : List (Int × Value)) := by
 have hF := Is.refl ()
 refine enter func63 ntmps63 (h := ?_)
 refine Jn ?_
 refine Aj Ae Sx (k := fun r1 hr1 => ?_)
 refine K2 ?_
 refine Fs (ml := ([] : List (Int × Value))) 0 Bo runUnderlying138 runUnderlying3 (Hg.nil (enc := fun x : Int => vi x)) Hs q0 (k := fun em1 km1 hms1 => ?_)
 refine K2 ?_
 refine Fs (ml := ([(0, (Value.agg [(Value.bool false), (Value.bool false)].toArray))] : List (Int × Value))) 1 Bo runUnderlying138 runUnderlying3 hms1 Hs q0 (k := fun em2 km2 hms2 => ?_)
 refine K2 ?_
 refine Fs (ml := ([(0, (Value.agg [(Value.bool false), (Value.bool false)].toArray)), (1, (Value.agg [(Value.bool true), (Value.bool false)].toArray))] : List (Int × Value))) 2 Bo runUnderlying138 runUnderlying3 hms2 Hs q0 (k := fun em3 km3 hms3 => ?_)
 refine K2 ?_
 refine Fs (ml := ([(0, (Value.agg [(Value.bool false), (Value.bool false)].toArray)), (1, (Value.agg [(Value.bool true), (Value.bool false)].toArray)), (2, (Value.agg [(Value.bool true), (Value.bool true)].toArray))] : List (Int × Value))) 3 Bo runUnderlying138 runUnderlying3 hms3 Hs q0 (k := fun em4 km4 hms4 => ?_)
 refine Cg ?_
 refine Z5 ?_
 refine Ac results63 z1 (fun w1 hw1 => ?_)
 exact ⟨r1, em4, km4, rfl, (Aq (L := [(r1, Obj.map em4 km4)]) (hw1.perm (List.Perm.refl _)) rfl), hms4⟩

theorem zS (w : World) {ea0 : Addr} {ea1 : Addr} {ea2 : Addr} {ea3 : Addr} {ea4 : Addr} {ea5 : Addr} {ea6 : Addr} {ea7 : Addr} {ea8 : Addr} {ea9 : Addr} {ea10 : Addr} {ea11 : Addr} {ea12 : Addr} {ea13 : Addr} {ea14 : Addr} {ea15 : Addr} {a : Int} {b : Int} (hG : Gl w) (hE : Er w ea0 ea1 ea2 ea3 ea4 ea5 ea6 ea7 ea8 ea9 ea10 ea11 ea12 ea13 ea14 ea15) : Calls Tryz.prog 23 (List.toArray [(vi a), (vi b)]) w fun e w2 => ∃ a1 : Option Addr, ∃ c1 : Nat, ∃ B : Am, e = .returned (Value.tuple [(Value.agg [(vi ((Cv a b).1.phase)), (vt ((Cv a b).1.name)), (vi ((Cv a b).1.handle.slot)), (vi ((Cv a b).1.handle.gen)), (vi ((Cv a b).1.a)), (vi ((Cv a b).1.b)), (vs a1 ((Cv a b).1.opn.length) c1)].toArray), (vi ((Cv a b).2))].toArray) ∧ Dz w w2 B ∧ Hb B eI 1 a1 (Cv a b).1.opn ∧ (Cv a b).1.opn.length ≤ 1000 := by
 have hF := Is.refl (Cv a b)
 refine enter func23 ntmps23 (h := ?_)
 refine Z2 ?_
 refine Aj Ae A4 (k := fun r1 hr1 => ?_)
 refine Jj ?_
 refine Qp ?_
 refine Aj Ae z48 (k := fun r2 hr2 => ?_)
 refine Bh (args := [_, _]) (Aa call64) func64 ntmps64 ?_
 refine Z2 ?_
 refine Aj Ae Qh (k := fun r3 hr3 => ?_)
 refine iI ?_
 refine Ew ?_
 refine qU ?_
 refine lS ?_
 refine lZ ?_
 refine eU ?_
 refine Zv ?_
 refine vL ?_
 refine cS ?_
 refine Aw 6 rfl (fun hq1 => ?_) (fun hq1 => ?_)
 ·refine Ag 3 rfl ?_
  refine cU ?_
  refine uX ?_
  refine vA ?_
  refine Sn ?_
  refine vV ?_
  refine iM ?_
  obtain ⟨Thgl2, fhgl2, hgl2⟩ := hE.v0
  refine mQ ?_
  refine iO ?_
  refine Sm ?_
  obtain ⟨Thgl3, fhgl3, hgl3⟩ := hE.v0
  refine jF ?_
  refine qR ?_
  refine Ub ?_
  refine iG ?_
  refine Qr ?_
  refine Ac results23 (Bk.agg isAgg26 sizeOf26 rfl me rfl z1) (fun w1 hw1 => ?_)
  exact ⟨none, 0, [], (rq (hF.pos hq1)), (hw1.fresh_out.sub Mt), (rn (hF.pos hq1)), (rl (hF.pos hq1))⟩
 refine cV ?_
 refine Bd rfl (fun hq4 => ?_) (fun hq4 => ?_)
 ·refine Bw ?_
  refine Lq ?_
  refine uX ?_
  refine vA ?_
  refine Sn ?_
  refine vV ?_
  refine iM ?_
  obtain ⟨Thgl5, fhgl5, hgl5⟩ := hE.v0
  refine rX ?_
  refine iO ?_
  refine Sm ?_
  obtain ⟨Thgl6, fhgl6, hgl6⟩ := hE.v0
  refine jG ?_
  refine qR ?_
  refine Ub ?_
  refine iG ?_
  refine Qr ?_
  refine Ac results23 (Bk.agg isAgg26 sizeOf26 rfl me rfl z1) (fun w1 hw1 => ?_)
  exact ⟨none, 0, [], (rq ((hF.neg hq1).pos hq4)), (hw1.fresh_out.sub Mt), (rn ((hF.neg hq1).pos hq4)), (rl ((hF.neg hq1).pos hq4))⟩
 refine Br ?_
 refine Yi ?_
 refine vM ?_
 refine cS ?_
 refine Aw 6 rfl (fun hq7 => ?_) (fun hq7 => ?_)
 ·refine Ag 3 rfl ?_
  refine cU ?_
  refine uX ?_
  refine vA ?_
  refine Sn ?_
  refine vV ?_
  refine iM ?_
  obtain ⟨Thgl8, fhgl8, hgl8⟩ := hE.v0
  refine rW ?_
  refine iO ?_
  refine Sm ?_
  obtain ⟨Thgl9, fhgl9, hgl9⟩ := hE.v0
  refine Ad (Dp isAgg93 hgl9) (k := ?_)
  refine qR ?_
  refine Ub ?_
  refine iG ?_
  refine Qr ?_
  refine Ac results23 (Bk.agg isAgg26 sizeOf26 rfl me rfl z1) (fun w1 hw1 => ?_)
  exact ⟨none, 0, [], (rq (((hF.neg hq1).neg hq4).pos hq7)), (hw1.fresh_out.sub Mt), (rn (((hF.neg hq1).neg hq4).pos hq7)), (rl (((hF.neg hq1).neg hq4).pos hq7))⟩
 refine cV ?_
 refine Bd rfl (fun hq10 => ?_) (fun hq10 => ?_)
 rotate_left
 ·refine Br ?_
  refine Zt ?_
  refine Yc ?_
  refine lW ?_
  refine vA ?_
  refine Y4 ?_
  refine vV ?_
  refine Sv ?_
  refine Ad (Cf (cs := [_, _, _, _, _, _, _]) zeroValue26 zR) (k := ?_)
  refine mV ?_
  refine Z5 ?_
  refine Ac results23 (Bk.agg isAgg26 sizeOf26 rfl me rfl z1) (fun w1 hw1 => ?_)
  exact ⟨none, 0, [], (rq ((((hF.neg hq1).neg hq4).neg hq7).neg hq10)), (hw1.fresh_out.sub Mt), (rn ((((hF.neg hq1).neg hq4).neg hq7).neg hq10)), (rl ((((hF.neg hq1).neg hq4).neg hq7).neg hq10))⟩
 refine Z3 ?_
 refine uX ?_
 refine vA ?_
 refine Sn ?_
 refine vV ?_
 refine iM ?_
 obtain ⟨Thgl11, fhgl11, hgl11⟩ := hE.v0
 refine Ad (Dp isAgg93 hgl11) (k := ?_)
 refine iO ?_
 refine Sm ?_
 obtain ⟨Thgl12, fhgl12, hgl12⟩ := hE.v0
 refine Ad (Dp isAgg93 hgl12) (k := ?_)
 refine qR ?_
 refine Ub ?_
 refine iG ?_
 refine Qr ?_
 refine Ac results23 (Bk.agg isAgg26 sizeOf26 rfl me rfl z1) (fun w1 hw1 => ?_)
 exact ⟨none, 0, [], (rq ((((hF.neg hq1).neg hq4).neg hq7).pos hq10)), (hw1.fresh_out.sub Mt), (rn ((((hF.neg hq1).neg hq4).neg hq7).pos hq10)), (rl ((((hF.neg hq1).neg hq4).neg hq7).pos hq10))⟩

theorem Yn (w : World) {l_a : Option Addr} {l_c : Nat} {l : List Int} (h_l : Sl w eI 1 l_a l) (n_l : l.length ≤ 1000) : Gz Tryz.prog 65 [(vs l_a l.length l_c)] w (Value.bool (Ds l)) := by
 have hF := Is.refl (Ds l)
 refine Pi func65 ntmps65 (h := ?_)
 refine Z2 ?_
 refine Aj Ae S6 (k := fun r1 hr1 => ?_)
 refine Qn ?_
 refine Aj Ae S5 (k := fun r2 hr2 => ?_)
 refine rE ?_
 refine Z3 ?_
 refine Bh (args := [_]) (Aa call60) func60 ntmps60 ?_
 refine Z2 ?_
 refine Aj Ae Qh (k := fun r3 hr3 => ?_)
 refine Uc ?_
 refine Av results60 z1 ?_
 refine Kt ?_
 refine Fc Ae rfl call113 func113 ntmps113 (fun l4 rD4 rr4 hl4 => ?_)
 refine Ye ?_
 refine Tz ?_
 refine Lt ?_
 refine Kb (σ1 := Nat) (σ2 := Nat) (σ3 := Int) (fun n_3 x_1 x_2 => ((l4, Cb rr4 .ready none) :: ((rD4, Obj.deferred (some [])) :: ((r3, oc [(vs l_a l.length l_c)] 24) :: ((r2, oc [(vi x_2)] 3) :: ((r1, oc [(Value.bool false)] 4) :: [])))))) (fun n_3 x_1 x_2 => [(0, (Value.func (.yield l4) [].toArray [].toArray)), (5, (vs l_a l.length l_c)), (6, (vi ((l.length : Nat) : Int))), (7, (vi ((x_1 : Nat) : Int)))]) (fun n_3 x_1 x_2 => l.length - x_1 < n_3 ∧ Is (Dq l (l.length + 1) 0 0) (Dq l n_3 x_1 x_2) ∧ x_1 ≤ l.length) (fun n_3 x_1 x_2 => n_3) (l.length + 1) 0 0 ?_ se (List.Perm.refl _) ?_
 ·exact ⟨Nat.lt_succ_self _, Is.refl _, Qc⟩
 ·rintro (_ | n_3) x_1 x_2 ⟨hm5, hF4, hi6⟩
  ·omega
  refine Tx ?_
  refine Bd rfl (fun hq1 => ?_) (fun hq1 => ?_)
  rotate_left
  ·refine Cu ?_
   refine Jl ?_
   refine Gg (.inr rfl) results113 q0 ?_
   refine Ti ?_
   refine Hk ?_
   refine rO ?_
   refine Aw 14 rfl (fun hq3 => ?_) (fun hq3 => ?_)
   rotate_left
   ·refine Ag 3 rfl ?_
    refine Ad Du (k := ?_)
    refine iE ?_
    refine Db [rD4] (qa q0) results65 iA (fun w1 hw1 => ?_)
    exact ⟨(rq ((hF.ok2 (hF4.neg hq1)).neg hq3)), hw1.ext_out⟩
   refine Ep ?_
   refine An (Dg runUnderlying24) (k := ?_)
   refine An Oe (k := ?_)
   refine aC ?_
   refine iE ?_
   refine Db [rD4] (qa q0) results65 iA (fun w1 hw1 => ?_)
   exact ⟨(rq ((hF.ok2 (hF4.neg hq1)).pos hq3)), hw1.ext_out⟩
  refine aA ?_
  refine Ad (Dl (n := l.length) runUnderlying24 sizeOf3 x_1 cF (gD Da) Lp) (k := ?_)
  refine Ad (Cr isAgg3 x_1 0 cF (gD Da)) (k := ?_)
  refine Ew ?_
  refine Jt (vs := [(vi (l.getD x_1 default))]) hl4 q0 Dh ?_
  refine cR ?_
  refine vC ?_
  refine Hk ?_
  refine Ad Oe (k := ?_)
  refine Z0 ?_
  refine Bd rfl (fun hq2 => ?_) (fun hq2 => ?_)
  rotate_left
  ·refine Br ?_
   refine Gv ?_
   refine Lq ?_
   refine H6 ?_
   refine Ex q0 ?_
   refine Oc ?_
   refine Pb ?_
   exact Gt n_3 (x_1 + 1) (l.getD x_1 default) ⟨by omega, ((hF4.pos hq1).neg hq2), z8⟩ (Nat.lt_succ_self _) se (List.Perm.refl _)
  refine Z2 ?_
  refine cP ?_
  refine vU ?_
  refine Sn ?_
  refine fA ?_
  refine Jl ?_
  refine nJ (.inr rfl) results113 q0 ?_
  refine aE ?_
  refine Z7 ?_
  refine Db [rD4] (qa q0) results65 iA (fun w1 hw1 => ?_)
  exact ⟨(rq (hF.er2 ((hF4.pos hq1).pos hq2))), hw1.ext_out⟩

theorem Qb (w : World) {s_opn_a : Option Addr} {s_opn_c : Nat} {s : Session} (h_s_opn : Sl w eI 1 s_opn_a s.opn) (n_s_opn : s.opn.length ≤ 1000) : Gz Tryz.prog 22 [(Value.agg [(vi s.phase), (vt s.name), (vi s.handle.slot), (vi s.handle.gen), (vi s.a), (vi s.b), (vs s_opn_a s.opn.length s_opn_c)].toArray)] w (Value.bool (Gd s)) := by
 have hF := Is.refl (Gd s)
 refine enter func22 ntmps22 (h := ?_)
 refine Z2 ?_
 refine Aj Ae z90 (k := fun r1 hr1 => ?_)
 refine Jj ?_
 refine pD (σ1 := Bool) (σ2 := Bool) (σ3 := Bool) (σ4 := Nat) (fun ok_1 x_2 x_3 r162 => ((r162, oc [(Value.bool x_2), (Value.bool x_3)] 136) :: ((r1, oc [(vi s.phase), (vt s.name), (vi s.handle.slot), (vi s.handle.gen), (vi s.a), (vi s.b), (vs s_opn_a s.opn.length s_opn_c)] 26) :: []))) (fun ok_1 x_2 x_3 r162 => [(1, (Value.pointer (some ⟨r1, 0, none⟩))), (2, (Value.bool false)), (3, (Value.pointer (some ⟨r162, 0, none⟩))), (4, (Value.bool ok_1))]) (fun ok_1 x_2 x_3 r162 => Is (Is.xr3 hF) (ok_1, x_2, x_3)) ?_ ?_
 ·skip
  refine Ui (V := []) mixed 10 z6 ?_
  refine Ci 1 rfl z6 (Al Lj) (k := ?_)
  refine Ci 2 rfl z6 (Bb isAgg3) (k := ?_)
  refine Bn [0, 7] z6 rfl (List.forall_mem_cons.2 ⟨?_, (List.forall_mem_cons.2 ⟨?_, nofun⟩)⟩)
  ·skip
   refine sD rfl (Aa call63) (fun w1 hw1 => Xq w1) (k := ?_)
   rintro w1_21 e1_21 w2_21 hw1_21 ⟨rm_21, em_21, km_21, he_21, hf_21, hm_21⟩
   refine ⟨_, _, _, he_21, hf_21, rfl, ?_⟩
   by_cases hq1 : s.phase = 0
   ·refine Ci 3 rfl z6 (Cy (l := ([(0, (Value.agg [(Value.bool false), (Value.bool false)].toArray)), (1, (Value.agg [(Value.bool true), (Value.bool false)].toArray)), (2, (Value.agg [(Value.bool true), (Value.bool true)].toArray)), (3, (Value.agg [(Value.bool false), (Value.bool false)].toArray))] : List (Int × Value))) (v := (Value.agg [(Value.bool false), (Value.bool false)].toArray)) s.phase Bo runUnderlying138 runUnderlying3 zeroValue136 hm_21 (Bv hq1.symm)) (k := ?_)
    refine Vw ?_
    refine Bn [7] z6 rfl (List.forall_mem_cons.2 ⟨?_, nofun⟩)
    ·skip
     refine Hp rfl Ae z84 (k := fun r162 hr162 => ?_)
     refine Bn [8] z6 rfl (List.forall_mem_cons.2 ⟨?_, nofun⟩)
     ·skip
      refine cT ?_
      exact Cz true false false r162 ((Is.refl (Is.xr3 hF)).pos hq1) se (List.Perm.refl _)
   by_cases hq2 : s.phase = 1
   ·refine Ci 3 rfl z6 (Cy (l := ([(0, (Value.agg [(Value.bool false), (Value.bool false)].toArray)), (1, (Value.agg [(Value.bool true), (Value.bool false)].toArray)), (2, (Value.agg [(Value.bool true), (Value.bool true)].toArray)), (3, (Value.agg [(Value.bool false), (Value.bool false)].toArray))] : List (Int × Value))) (v := (Value.agg [(Value.bool true), (Value.bool false)].toArray)) s.phase Bo runUnderlying138 runUnderlying3 zeroValue136 hm_21 ((Af (fun e => hq1 e.symm)).trans (Bv hq2.symm))) (k := ?_)
    refine Vw ?_
    refine Bn [7] z6 rfl (List.forall_mem_cons.2 ⟨?_, nofun⟩)
    ·skip
     refine Hp rfl Ae z84 (k := fun r162 hr162 => ?_)
     refine Bn [8] z6 rfl (List.forall_mem_cons.2 ⟨?_, nofun⟩)
     ·skip
      refine cT ?_
      exact Cz true true false r162 (((Is.refl (Is.xr3 hF)).neg hq1).pos hq2) se (List.Perm.refl _)
   by_cases hq3 : s.phase = 2
   ·refine Ci 3 rfl z6 (Cy (l := ([(0, (Value.agg [(Value.bool false), (Value.bool false)].toArray)), (1, (Value.agg [(Value.bool true), (Value.bool false)].toArray)), (2, (Value.agg [(Value.bool true), (Value.bool true)].toArray)), (3, (Value.agg [(Value.bool false), (Value.bool false)].toArray))] : List (Int × Value))) (v := (Value.agg [(Value.bool true), (Value.bool true)].toArray)) s.phase Bo runUnderlying138 runUnderlying3 zeroValue136 hm_21 ((Af (fun e => hq1 e.symm)).trans ((Af (fun e => hq2 e.symm)).trans (Bv hq3.symm)))) (k := ?_)
    refine Vw ?_
    refine Bn [7] z6 rfl (List.forall_mem_cons.2 ⟨?_, nofun⟩)
    ·skip
     refine Hp rfl Ae z84 (k := fun r162 hr162 => ?_)
     refine Bn [8] z6 rfl (List.forall_mem_cons.2 ⟨?_, nofun⟩)
     ·skip
      refine cT ?_
      exact Cz true true true r162 ((((Is.refl (Is.xr3 hF)).neg hq1).neg hq2).pos hq3) se (List.Perm.refl _)
   by_cases hq4 : s.phase = 3
   ·refine Ci 3 rfl z6 (Cy (l := ([(0, (Value.agg [(Value.bool false), (Value.bool false)].toArray)), (1, (Value.agg [(Value.bool true), (Value.bool false)].toArray)), (2, (Value.agg [(Value.bool true), (Value.bool true)].toArray)), (3, (Value.agg [(Value.bool false), (Value.bool false)].toArray))] : List (Int × Value))) (v := (Value.agg [(Value.bool false), (Value.bool false)].toArray)) s.phase Bo runUnderlying138 runUnderlying3 zeroValue136 hm_21 ((Af (fun e => hq1 e.symm)).trans ((Af (fun e => hq2 e.symm)).trans ((Af (fun e => hq3 e.symm)).trans (Bv hq4.symm))))) (k := ?_)
    refine Vw ?_
    refine Bn [7] z6 rfl (List.forall_mem_cons.2 ⟨?_, nofun⟩)
    ·skip
     refine Hp rfl Ae z84 (k := fun r162 hr162 => ?_)
     refine Bn [8] z6 rfl (List.forall_mem_cons.2 ⟨?_, nofun⟩)
     ·skip
      refine cT ?_
      exact Cz true false false r162 (((((Is.refl (Is.xr3 hF)).neg hq1).neg hq2).neg hq3).pos hq4) se (List.Perm.refl _)
   refine Ci 3 rfl z6 (Pm (l := ([(0, (Value.agg [(Value.bool false), (Value.bool false)].toArray)), (1, (Value.agg [(Value.bool true), (Value.bool false)].toArray)), (2, (Value.agg [(Value.bool true), (Value.bool true)].toArray)), (3, (Value.agg [(Value.bool false), (Value.bool false)].toArray))] : List (Int × Value))) s.phase Bo runUnderlying138 runUnderlying3 zeroValue136 hm_21 ((Af (fun e => hq1 e.symm)).trans ((Af (fun e => hq2 e.symm)).trans ((Af (fun e => hq3 e.symm)).trans ((Af (fun e => hq4 e.symm)).trans Jv))))) (k := ?_)
   refine Vw ?_
   refine Bn [7] z6 rfl (List.forall_mem_cons.2 ⟨?_, nofun⟩)
   ·skip
    refine Hp rfl Ae z84 (k := fun r162 hr162 => ?_)
    refine Bn [8] z6 rfl (List.forall_mem_cons.2 ⟨?_, nofun⟩)
    ·skip
     refine cT ?_
     exact Cz false false false r162 (((((Is.refl (Is.xr3 hF)).neg hq1).neg hq2).neg hq3).neg hq4) se (List.Perm.refl _)
  ·skip
   refine Hp rfl Ae z84 (k := fun r162 hr162 => ?_)
   refine Bn [0] z6 rfl (List.forall_mem_cons.2 ⟨?_, nofun⟩)
   ·skip
    refine sD rfl (Aa call63) (fun w1 hw1 => Xq w1) (k := ?_)
    rintro w1_21 e1_21 w2_21 hw1_21 ⟨rm_21, em_21, km_21, he_21, hf_21, hm_21⟩
    refine ⟨_, _, _, he_21, hf_21, rfl, ?_⟩
    by_cases hq5 : s.phase = 0
    ·refine Ci 3 rfl z6 (Cy (l := ([(0, (Value.agg [(Value.bool false), (Value.bool false)].toArray)), (1, (Value.agg [(Value.bool true), (Value.bool false)].toArray)), (2, (Value.agg [(Value.bool true), (Value.bool true)].toArray)), (3, (Value.agg [(Value.bool false), (Value.bool false)].toArray))] : List (Int × Value))) (v := (Value.agg [(Value.bool false), (Value.bool false)].toArray)) s.phase Bo runUnderlying138 runUnderlying3 zeroValue136 hm_21 (Bv hq5.symm)) (k := ?_)
     refine Vw ?_
     refine Bn [8] z6 rfl (List.forall_mem_cons.2 ⟨?_, nofun⟩)
     ·skip
      refine cT ?_
      exact Cz true false false r162 ((Is.refl (Is.xr3 hF)).pos hq5) se (List.Perm.refl _)
    by_cases hq6 : s.phase = 1
    ·refine Ci 3 rfl z6 (Cy (l := ([(0, (Value.agg [(Value.bool false), (Value.bool false)].toArray)), (1, (Value.agg [(Value.bool true), (Value.bool false)].toArray)), (2, (Value.agg [(Value.bool true), (Value.bool true)].toArray)), (3, (Value.agg [(Value.bool false), (Value.bool false)].toArray))] : List (Int × Value))) (v := (Value.agg [(Value.bool true), (Value.bool false)].toArray)) s.phase Bo runUnderlying138 runUnderlying3 zeroValue136 hm_21 ((Af (fun e => hq5 e.symm)).trans (Bv hq6.symm))) (k := ?_)
     refine Vw ?_
     refine Bn [8] z6 rfl (List.forall_mem_cons.2 ⟨?_, nofun⟩)
     ·skip
      refine cT ?_
      exact Cz true true false r162 (((Is.refl (Is.xr3 hF)).neg hq5).pos hq6) se (List.Perm.refl _)
    by_cases hq7 : s.phase = 2
    ·refine Ci 3 rfl z6 (Cy (l := ([(0, (Value.agg [(Value.bool false), (Value.bool false)].toArray)), (1, (Value.agg [(Value.bool true), (Value.bool false)].toArray)), (2, (Value.agg [(Value.bool true), (Value.bool true)].toArray)), (3, (Value.agg [(Value.bool false), (Value.bool false)].toArray))] : List (Int × Value))) (v := (Value.agg [(Value.bool true), (Value.bool true)].toArray)) s.phase Bo runUnderlying138 runUnderlying3 zeroValue136 hm_21 ((Af (fun e => hq5 e.symm)).trans ((Af (fun e => hq6 e.symm)).trans (Bv hq7.symm)))) (k := ?_)
     refine Vw ?_
     refine Bn [8] z6 rfl (List.forall_mem_cons.2 ⟨?_, nofun⟩)
     ·skip
      refine cT ?_
      exact Cz true true true r162 ((((Is.refl (Is.xr3 hF)).neg hq5).neg hq6).pos hq7) se (List.Perm.refl _)
    by_cases hq8 : s.phase = 3
    ·refine Ci 3 rfl z6 (Cy (l := ([(0, (Value.agg [(Value.bool false), (Value.bool false)].toArray)), (1, (Value.agg [(Value.bool true), (Value.bool false)].toArray)), (2, (Value.agg [(Value.bool true), (Value.bool true)].toArray)), (3, (Value.agg [(Value.bool false), (Value.bool false)].toArray))] : List (Int × Value))) (v := (Value.agg [(Value.bool false), (Value.bool false)].toArray)) s.phase Bo runUnderlying138 runUnderlying3 zeroValue136 hm_21 ((Af (fun e => hq5 e.symm)).trans ((Af (fun e => hq6 e.symm)).trans ((Af (fun e => hq7 e.symm)).trans (Bv hq8.symm))))) (k := ?_)
     refine Vw ?_
     refine Bn [8] z6 rfl (List.forall_mem_cons.2 ⟨?_, nofun⟩)
     ·skip
      refine cT ?_
      exact Cz true false false r162 (((((Is.refl (Is.xr3 hF)).neg hq5).neg hq6).neg hq7).pos hq8) se (List.Perm.refl _)
    refine Ci 3 rfl z6 (Pm (l := ([(0, (Value.agg [(Value.bool false), (Value.bool false)].toArray)), (1, (Value.agg [(Value.bool true), (Value.bool false)].toArray)), (2, (Value.agg [(Value.bool true), (Value.bool true)].toArray)), (3, (Value.agg [(Value.bool false), (Value.bool false)].toArray))] : List (Int × Value))) s.phase Bo runUnderlying138 runUnderlying3 zeroValue136 hm_21 ((Af (fun e => hq5 e.symm)).trans ((Af (fun e => hq6 e.symm)).trans ((Af (fun e => hq7 e.symm)).trans ((Af (fun e => hq8 e.symm)).trans Jv))))) (k := ?_)
    refine Vw ?_
    refine Bn [8] z6 rfl (List.forall_mem_cons.2 ⟨?_, nofun⟩)
    ·skip
     refine cT ?_
     exact Cz false false false r162 (((((Is.refl (Is.xr3 hF)).neg hq5).neg hq6).neg hq7).neg hq8) se (List.Perm.refl _)
 intro ok_1 x_2 x_3 r162 hJ4
 refine Gv ?_
 refine Z2 ?_
 refine vN ?_
 refine fJ ?_
 refine rO ?_
 refine Aw 18 rfl (fun hq9 => ?_) (fun hq9 => ?_)
 rotate_left
 ·refine Ag 6 rfl ?_
  refine Ad Du (k := ?_)
  refine Oy ?_
  refine Ad (Al Vt) (k := ?_)
  refine Ad A7 (k := ?_)
  refine Ad z87 (k := ?_)
  refine Ad (Xh (pP _ _ _ _ _ _)) (k := ?_)
  refine Cg ?_
  refine Aw 30 rfl (fun hq26 => ?_) (fun hq26 => ?_)
  rotate_left
  ·refine Ag 4 rfl ?_
   refine Ad Du (k := ?_)
   refine Ew ?_
   refine Cs 37 rfl (fun hq32 => ?_) (fun hq32 => ?_)
   rotate_left
   ·refine Ag 6 rfl ?_
    refine Te ?_
    refine uY ?_
    refine Ac results22 z1 (fun w1 hw1 => ?_)
    exact ⟨(rq ((((hF.rn3 hJ4).neg hq9).neg hq26).f hq32)), hw1.ext_out⟩
   refine G2 ?_
   refine G3 ?_
   refine dL Ae z48 (k := fun r228 hr228 => ?_)
   refine F0 ?_
   refine Aj Ae Qh (k := fun r229 hr229 => ?_)
   refine iI ?_
   refine Ew ?_
   refine qU ?_
   refine lS ?_
   refine lZ ?_
   refine eU ?_
   refine Zv ?_
   refine vL ?_
   refine cS ?_
   refine Aw 6 rfl (fun hq33 => ?_) (fun hq33 => ?_)
   ·refine Ag 3 rfl ?_
    refine cU ?_
    refine Sp ?_
    refine Ac results22 z1 (fun w1 hw1 => ?_)
    exact ⟨(rq (((((hF.rn3 hJ4).neg hq9).neg hq26).t hq32).pos hq33)), hw1.ext_out⟩
   refine cV ?_
   refine Bd rfl (fun hq34 => ?_) (fun hq34 => ?_)
   ·refine Bw ?_
    refine Lq ?_
    refine Sp ?_
    refine Ac results22 z1 (fun w1 hw1 => ?_)
    exact ⟨(rq ((((((hF.rn3 hJ4).neg hq9).neg hq26).t hq32).neg hq33).pos hq34)), hw1.ext_out⟩
   refine Br ?_
   refine Yi ?_
   refine vM ?_
   refine cS ?_
   refine Aw 6 rfl (fun hq35 => ?_) (fun hq35 => ?_)
   ·refine Ag 3 rfl ?_
    refine cU ?_
    refine Sp ?_
    refine Ac results22 z1 (fun w1 hw1 => ?_)
    exact ⟨(rq (((((((hF.rn3 hJ4).neg hq9).neg hq26).t hq32).neg hq33).neg hq34).pos hq35)), hw1.ext_out⟩
   refine cV ?_
   refine Bd rfl (fun hq36 => ?_) (fun hq36 => ?_)
   ·refine Bw ?_
    refine Lq ?_
    refine Sp ?_
    refine Ac results22 z1 (fun w1 hw1 => ?_)
    exact ⟨(rq ((((((((hF.rn3 hJ4).neg hq9).neg hq26).t hq32).neg hq33).neg hq34).neg hq35).pos hq36)), hw1.ext_out⟩
   refine Wb ?_
   refine lW ?_
   refine vD ?_
   refine Ep ?_
   refine Qq ?_
   refine Ag 5 rfl ?_
   refine Tg ?_
   refine Ac results22 z1 (fun w1 hw1 => ?_)
   exact ⟨(rq ((((((((hF.rn3 hJ4).neg hq9).neg hq26).t hq32).neg hq33).neg hq34).neg hq35).neg hq36)), hw1.ext_out⟩
  refine An lL (k := ?_)
  refine An lN (k := ?_)
  refine An (Dg runUnderlying24) (k := ?_)
  refine An Gw (k := ?_)
  refine aC ?_
  refine Ew ?_
  refine Cs 37 rfl (fun hq27 => ?_) (fun hq27 => ?_)
  rotate_left
  ·refine Ag 6 rfl ?_
   refine Te ?_
   refine uY ?_
   refine Ac results22 z1 (fun w1 hw1 => ?_)
   exact ⟨(rq ((((hF.rn3 hJ4).neg hq9).pos hq26).f hq27)), hw1.ext_out⟩
  refine G2 ?_
  refine G3 ?_
  refine dL Ae z48 (k := fun r226 hr226 => ?_)
  refine F0 ?_
  refine Aj Ae Qh (k := fun r227 hr227 => ?_)
  refine iI ?_
  refine Ew ?_
  refine qU ?_
  refine lS ?_
  refine lZ ?_
  refine eU ?_
  refine Zv ?_
  refine vL ?_
  refine cS ?_
  refine Aw 6 rfl (fun hq28 => ?_) (fun hq28 => ?_)
  ·refine Ag 3 rfl ?_
   refine cU ?_
   refine Sp ?_
   refine Ac results22 z1 (fun w1 hw1 => ?_)
   exact ⟨(rq (((((hF.rn3 hJ4).neg hq9).pos hq26).t hq27).pos hq28)), hw1.ext_out⟩
  refine cV ?_
  refine Bd rfl (fun hq29 => ?_) (fun hq29 => ?_)
  ·refine Bw ?_
   refine Lq ?_
   refine Sp ?_
   refine Ac results22 z1 (fun w1 hw1 => ?_)
   exact ⟨(rq ((((((hF.rn3 hJ4).neg hq9).pos hq26).t hq27).neg hq28).pos hq29)), hw1.ext_out⟩
  refine Br ?_
  refine Yi ?_
  refine vM ?_
  refine cS ?_
  refine Aw 6 rfl (fun hq30 => ?_) (fun hq30 => ?_)
  ·refine Ag 3 rfl ?_
   refine cU ?_
   refine Sp ?_
   refine Ac results22 z1 (fun w1 hw1 => ?_)
   exact ⟨(rq (((((((hF.rn3 hJ4).neg hq9).pos hq26).t hq27).neg hq28).neg hq29).pos hq30)), hw1.ext_out⟩
  refine cV ?_
  refine Bd rfl (fun hq31 => ?_) (fun hq31 => ?_)
  ·refine Bw ?_
   refine Lq ?_
   refine Sp ?_
   refine Ac results22 z1 (fun w1 hw1 => ?_)
   exact ⟨(rq ((((((((hF.rn3 hJ4).neg hq9).pos hq26).t hq27).neg hq28).neg hq29).neg hq30).pos hq31)), hw1.ext_out⟩
  refine Wb ?_
  refine lW ?_
  refine vD ?_
  refine Ep ?_
  refine Qq ?_
  refine Ag 5 rfl ?_
  refine Tg ?_
  refine Ac results22 z1 (fun w1 hw1 => ?_)
  exact ⟨(rq ((((((((hF.rn3 hJ4).neg hq9).pos hq26).t hq27).neg hq28).neg hq29).neg hq30).neg hq31)), hw1.ext_out⟩
 refine An (Al Qa) (k := ?_)
 refine An (Bb isAgg9) (k := ?_)
 refine An xB (k := ?_)
 refine An (Al zQ) (k := ?_)
 refine An (Bb isAgg4) (k := ?_)
 refine An (aL runUnderlying4) (k := ?_)
 refine aC ?_
 refine Oy ?_
 refine Ad (Al Vt) (k := ?_)
 refine Ad A7 (k := ?_)
 refine Ad z87 (k := ?_)
 refine Ad (Xh (pP _ _ _ _ _ _)) (k := ?_)
 refine Cg ?_
 refine Aw 30 rfl (fun hq10 => ?_) (fun hq10 => ?_)
 rotate_left
 ·refine Ag 4 rfl ?_
  refine Ad Du (k := ?_)
  refine Ew ?_
  refine Cs 37 rfl (fun hq19 => ?_) (fun hq19 => ?_)
  rotate_left
  ·refine Ag 6 rfl ?_
   refine Te ?_
   refine uY ?_
   refine Ac results22 z1 (fun w1 hw1 => ?_)
   exact ⟨(rq ((((hF.rn3 hJ4).pos hq9).neg hq10).f hq19)), hw1.ext_out⟩
  refine G2 ?_
  refine G3 ?_
  refine dL Ae z48 (k := fun r224 hr224 => ?_)
  refine F0 ?_
  refine Aj Ae Qh (k := fun r225 hr225 => ?_)
  refine iI ?_
  refine Ew ?_
  refine qU ?_
  refine lS ?_
  refine lZ ?_
  refine eU ?_
  refine Zv ?_
  refine vL ?_
  refine cS ?_
  refine Aw 6 rfl (fun hq20 => ?_) (fun hq20 => ?_)
  ·refine Ag 3 rfl ?_
   refine cU ?_
   refine Sp ?_
   refine Ac results22 z1 (fun w1 hw1 => ?_)
   exact ⟨(rq (((((hF.rn3 hJ4).pos hq9).neg hq10).t hq19).pos hq20)), hw1.ext_out⟩
  refine cV ?_
  refine Bd rfl (fun hq21 => ?_) (fun hq21 => ?_)
  ·refine Bw ?_
   refine Lq ?_
   refine Sp ?_
   refine Ac results22 z1 (fun w1 hw1 => ?_)
   exact ⟨(rq ((((((hF.rn3 hJ4).pos hq9).neg hq10).t hq19).neg hq20).pos hq21)), hw1.ext_out⟩
  refine Br ?_
  refine Yi ?_
  refine vM ?_
  refine cS ?_
  refine Aw 6 rfl (fun hq22 => ?_) (fun hq22 => ?_)
  ·refine Ag 3 rfl ?_
   refine cU ?_
   refine Sp ?_
   refine Ac results22 z1 (fun w1 hw1 => ?_)
   exact ⟨(rq (((((((hF.rn3 hJ4).pos hq9).neg hq10).t hq19).neg hq20).neg hq21).pos hq22)), hw1.ext_out⟩
  refine cV ?_
  refine Bd rfl (fun hq23 => ?_) (fun hq23 => ?_)
  ·refine Bw ?_
   refine Lq ?_
   refine Sp ?_
   refine Ac results22 z1 (fun w1 hw1 => ?_)
   exact ⟨(rq ((((((((hF.rn3 hJ4).pos hq9).neg hq10).t hq19).neg hq20).neg hq21).neg hq22).pos hq23)), hw1.ext_out⟩
  refine Wb ?_
  refine lW ?_
  refine vD ?_
  refine Ep ?_
  refine Qq ?_
  refine Cs 48 rfl (fun hq24 => ?_) (fun hq24 => ?_)
  rotate_left
  ·refine Ag 5 rfl ?_
   refine Tg ?_
   refine Ac results22 z1 (fun w1 hw1 => ?_)
   exact ⟨(rq (((((((((hF.rn3 hJ4).pos hq9).neg hq10).t hq19).neg hq20).neg hq21).neg hq22).neg hq23).f hq24)), hw1.ext_out⟩
  refine An (Al lF) (k := ?_)
  refine An (Bb isAgg4) (k := ?_)
  refine Ep ?_
  refine Cs 51 rfl (fun hq25 => ?_) (fun hq25 => ?_)
  rotate_left
  ·refine An Fp (k := ?_)
   refine An Du (k := ?_)
   refine Yd ?_
   refine Lr ?_
   refine Ac results22 z1 (fun w1 hw1 => ?_)
   exact ⟨(rq ((((((((((hF.rn3 hJ4).pos hq9).neg hq10).t hq19).neg hq20).neg hq21).neg hq22).neg hq23).t hq24).f hq25)), hw1.ext_out⟩
  refine fO (k := ?_)
  refine An Fx (k := ?_)
  refine Qq ?_
  refine An lL (k := ?_)
  refine W8 ?_
  refine Ry ?_
  refine Ac results22 z1 (fun w1 hw1 => ?_)
  exact ⟨(rq ((((((((((hF.rn3 hJ4).pos hq9).neg hq10).t hq19).neg hq20).neg hq21).neg hq22).neg hq23).t hq24).t hq25)), hw1.ext_out⟩
 refine An lL (k := ?_)
 refine An lN (k := ?_)
 refine An (Dg runUnderlying24) (k := ?_)
 refine An Gw (k := ?_)
 refine aC ?_
 refine Ew ?_
 refine Cs 37 rfl (fun hq11 => ?_) (fun hq11 => ?_)
 rotate_left
 ·refine Ag 6 rfl ?_
  refine Te ?_
  refine uY ?_
  refine Ac results22 z1 (fun w1 hw1 => ?_)
  exact ⟨(rq ((((hF.rn3 hJ4).pos hq9).pos hq10).f hq11)), hw1.ext_out⟩
 refine G2 ?_
 refine G3 ?_
 refine dL Ae z48 (k := fun r222 hr222 => ?_)
 refine F0 ?_
 refine Aj Ae Qh (k := fun r223 hr223 => ?_)
 refine iI ?_
 refine Ew ?_
 refine qU ?_
 refine lS ?_
 refine lZ ?_
 refine eU ?_
 refine Zv ?_
 refine vL ?_
 refine cS ?_
 refine Aw 6 rfl (fun hq12 => ?_) (fun hq12 => ?_)
 ·refine Ag 3 rfl ?_
  refine cU ?_
  refine Sp ?_
  refine Ac results22 z1 (fun w1 hw1 => ?_)
  exact ⟨(rq (((((hF.rn3 hJ4).pos hq9).pos hq10).t hq11).pos hq12)), hw1.ext_out⟩
 refine cV ?_
 refine Bd rfl (fun hq13 => ?_) (fun hq13 => ?_)
 ·refine Bw ?_
  refine Lq ?_
  refine Sp ?_
  refine Ac results22 z1 (fun w1 hw1 => ?_)
  exact ⟨(rq ((((((hF.rn3 hJ4).pos hq9).pos hq10).t hq11).neg hq12).pos hq13)), hw1.ext_out⟩
 refine Br ?_
 refine Yi ?_
 refine vM ?_
 refine cS ?_
 refine Aw 6 rfl (fun hq14 => ?_) (fun hq14 => ?_)
 ·refine Ag 3 rfl ?_
  refine cU ?_
  refine Sp ?_
  refine Ac results22 z1 (fun w1 hw1 => ?_)
  exact ⟨(rq (((((((hF.rn3 hJ4).pos hq9).pos hq10).t hq11).neg hq12).neg hq13).pos hq14)), hw1.ext_out⟩
 refine cV ?_
 refine Bd rfl (fun hq15 => ?_) (fun hq15 => ?_)
 ·refine Bw ?_
  refine Lq ?_
  refine Sp ?_
  refine Ac results22 z1 (fun w1 hw1 => ?_)
  exact ⟨(rq ((((((((hF.rn3 hJ4).pos hq9).pos hq10).t hq11).neg hq12).neg hq13).neg hq14).pos hq15)), hw1.ext_out⟩
 refine Wb ?_
 refine lW ?_
 refine vD ?_
 refine Ep ?_
 refine Qq ?_
 refine Cs 48 rfl (fun hq16 => ?_) (fun hq16 => ?_)
 rotate_left
 ·refine Ag 5 rfl ?_
  refine Tg ?_
  refine Ac results22 z1 (fun w1 hw1 => ?_)
  exact ⟨(rq (((((((((hF.rn3 hJ4).pos hq9).pos hq10).t hq11).neg hq12).neg hq13).neg hq14).neg hq15).f hq16)), hw1.ext_out⟩
 refine An (Al lF) (k := ?_)
 refine An (Bb isAgg4) (k := ?_)
 refine Ep ?_
 refine Cs 51 rfl (fun hq17 => ?_) (fun hq17 => ?_)
 ·refine fO (k := ?_)
  refine An Fx (k := ?_)
  refine Qq ?_
  refine An lL (k := ?_)
  refine W8 ?_
  refine Ry ?_
  refine Ac results22 z1 (fun w1 hw1 => ?_)
  exact ⟨(rq ((((((((((hF.rn3 hJ4).pos hq9).pos hq10).t hq11).neg hq12).neg hq13).neg hq14).neg hq15).t hq16).t hq17)), hw1.ext_out⟩
 refine Ep ?_
 refine An Du (k := ?_)
 refine Qq ?_
 refine Aw 55 rfl (fun hq18 => ?_) (fun hq18 => ?_)
 rotate_left
 ·refine Ag 3 rfl ?_
  refine Lr ?_
  refine Ac results22 z1 (fun w1 hw1 => ?_)
  exact ⟨(rq (((((((((((hF.rn3 hJ4).pos hq9).pos hq10).t hq11).neg hq12).neg hq13).neg hq14).neg hq15).t hq16).f hq17).neg hq18)), hw1.ext_out⟩
 refine An lL (k := ?_)
 refine W8 ?_
 refine Ry ?_
 refine Ac results22 z1 (fun w1 hw1 => ?_)
 exact ⟨(rq (((((((((((hF.rn3 hJ4).pos hq9).pos hq10).t hq11).neg hq12).neg hq13).neg hq14).neg hq15).t hq16).f hq17).pos hq18)), hw1.ext_out⟩

theorem Mm (w : World) {s_opn_a : Option Addr} {s_opn_c : Nat} {s : Session} {stream : Int} (h_s_opn : Sl w eI 1 s_opn_a s.opn) (n_s_opn : s.opn.length ≤ 1000) : Gz Tryz.prog 20 [(Value.agg [(vi s.phase), (vt s.name), (vi s.handle.slot), (vi s.handle.gen), (vi s.a), (vi s.b), (vs s_opn_a s.opn.length s_opn_c)].toArray), (vi stream)] w (Value.bool (Gk s stream)) := by
 have hF := Is.refl (Gk s stream)
 refine Pi func20 ntmps20 (h := ?_)
 refine Z2 ?_
 refine Aj Ae z90 (k := fun r1 hr1 => ?_)
 refine Aj Ae Qh (k := fun r2 hr2 => ?_)
 refine Aj Ae S6 (k := fun r3 hr3 => ?_)
 refine Jk ?_
 refine Z2 ?_
 refine X2 ?_
 refine Bh (args := [_]) (Aa call60) func60 ntmps60 ?_
 refine Z2 ?_
 refine Aj Ae Qh (k := fun r4 hr4 => ?_)
 refine Uc ?_
 refine Av results60 z1 ?_
 refine Kt ?_
 refine Fc Ae rfl call113 func113 ntmps113 (fun l5 rD5 rr5 hl5 => ?_)
 refine Ye ?_
 refine Tz ?_
 refine Lt ?_
 refine Ka (σ1 := Nat) (σ2 := Nat) (fun n_2 x_1 => ((l5, Cb rr5 .ready none) :: ((rD5, Obj.deferred (some [])) :: ((r4, oc [(vs s_opn_a s.opn.length s_opn_c)] 24) :: ((r3, oc [(Value.bool false)] 4) :: ((r2, oc [(vi stream)] 3) :: ((r1, oc [(vi s.phase), (vt s.name), (vi s.handle.slot), (vi s.handle.gen), (vi s.a), (vi s.b), (vs s_opn_a s.opn.length s_opn_c)] 26) :: []))))))) (fun n_2 x_1 => [(0, (Value.func (.yield l5) [].toArray [].toArray)), (5, (vs s_opn_a s.opn.length s_opn_c)), (6, (vi ((s.opn.length : Nat) : Int))), (7, (vi ((x_1 : Nat) : Int)))]) (fun n_2 x_1 => s.opn.length - x_1 < n_2 ∧ Is (Ou s stream (s.opn.length + 1) 0) (Ou s stream n_2 x_1) ∧ x_1 ≤ s.opn.length) (fun n_2 x_1 => n_2) (s.opn.length + 1) 0 ?_ se (List.Perm.refl _) ?_
 ·exact ⟨Nat.lt_succ_self _, Is.refl _, Qc⟩
 ·rintro (_ | n_2) x_1 ⟨hm4, hF3, hi5⟩
  ·omega
  refine Tx ?_
  refine Bd rfl (fun hq1 => ?_) (fun hq1 => ?_)
  rotate_left
  ·refine Cu ?_
   refine Jl ?_
   refine Gg (.inr rfl) results113 q0 ?_
   refine Ti ?_
   refine iE ?_
   refine Db [rD5] (qa q0) results20 iA (fun w1 hw1 => ?_)
   exact ⟨(rq (hF.ok1 (hF3.neg hq1))), hw1.ext_out⟩
  refine aA ?_
  refine Ad (Dl (n := s.opn.length) runUnderlying24 sizeOf3 x_1 (Ch.of_base h_s_opn) (gD Da) Lp) (k := ?_)
  refine Ad (Cr isAgg3 x_1 0 (Ch.of_base h_s_opn) (gD Da)) (k := ?_)
  refine Ew ?_
  refine Jt (vs := [(vi (s.opn.getD x_1 default))]) hl5 q0 Dh ?_
  refine cR ?_
  refine Z3 ?_
  refine Hk ?_
  refine cO ?_
  refine Bd rfl (fun hq2 => ?_) (fun hq2 => ?_)
  rotate_left
  ·refine Br ?_
   refine Eu ?_
   refine Ex q0 ?_
   refine Oc ?_
   refine Pb ?_
   exact Hw n_2 (x_1 + 1) ⟨by omega, ((hF3.pos hq1).neg hq2), z8⟩ (Nat.lt_succ_self _) se (List.Perm.refl _)
  refine Z2 ?_
  refine iE ?_
  refine vU ?_
  refine Sn ?_
  refine fA ?_
  refine Jl ?_
  refine nJ (.inr rfl) results113 q0 ?_
  refine aE ?_
  refine Z7 ?_
  refine Db [rD5] (qa q0) results20 iA (fun w1 hw1 => ?_)
  exact ⟨(rq (hF.er1 ((hF3.pos hq1).pos hq2))), hw1.ext_out⟩

end Go.Proofs.YtdnjanhdnibkfaaGreatDoor.Jd

namespace Go.Proofs.YtdnjanhdnibkfaaGreatDoor.Jd
open Go.Proofs.Tryz
open Go.Proofs
set_option linter.unusedVariables false
set_option linter.unusedSimpArgs false
theorem AG3 {x : Int} (n : Nat) (h : n ≤ 4000000000000000000) (e : x = ((n : Nat) : Int) := by omega) : IntKind.i64.wrap (Ab .u64 x 1) = ((n / 2 : Nat) : Int) := by
  subst e
  have e1 : Ab .u64 ((n : Nat) : Int) 1 = ((n : Nat) : Int) / 2 := by
    unfold Ab
    rw [show min (1 : Int).toNat IntKind.u64.bits = 1 from rfl, Int.fdiv_eq_ediv_of_nonneg _ z8]
    rfl
  rw [e1]
  have e2 : ((n : Nat) : Int) / 2 = ((n / 2 : Nat) : Int) := by omega
  rw [e2]
  exact Gx z8
theorem Ob (x : List Int) (t : Int) : ∀ n i j, i ≤ j → j ≤ x.length → (Gu x t n i j).1 ≤ x.length
  | 0, i, j, h1, h2 => by show i ≤ _; omega
  | n + 1, i, j, h1, h2 => by
    unfold Gu
    by_cases h : ((i : Nat) : Int) < ((j : Nat) : Int)
    · rw [if_pos h, if_neg Hs]
      split
      · exact Ob x t n _ _ z8 h2
      · exact Ob x t n _ _ z8 z8
    · rw [if_neg h]; show i ≤ _; omega
theorem bW (x : List Int) (t : Int) : 0 ≤ (Hy x t).1 ∧ (Hy x t).1 ≤ x.length := by
  have h := Ob x t (x.length + 1) 0 x.length z8 z8
  have e : (Hy x t).1 = (((Gu x t (x.length + 1) 0 x.length).1 : Nat) : Int) := by
    unfold Hy
    generalize Gu x t (x.length + 1) 0 x.length = y
    obtain ⟨y1, y2⟩ := y
    simp only [Iw]
    repeat' split
    all_goals first | rfl | (rename_i h; exact absurd rfl h)
  rw [e]; omega
theorem Rt (l : List Int) : ∀ n i q b, Dq l n i q = .error b → b = false
  | 0, i, q, b, h => by cases h
  | n + 1, i, q, b, h => by
    unfold Dq at h
    split at h
    · split at h
      · cases h; rfl
      · exact Rt l n _ _ b h
    · cases h
theorem bX {l : List Int} (h : Ds l = true) : l.length ≤ 8 := by
  unfold Ds at h
  cases hx : Dq l (l.length + 1) 0 0 with
  | error b =>
    rw [hx] at h
    have := Rt _ _ _ _ _ hx
    subst this; cases h
  | ok q =>
    rw [hx] at h
    obtain ⟨q1, q2⟩ := q
    simp only [Ho] at h
    split at h
    · have := of_decide_eq_true h; omega
    · cases h
theorem Xb {s : Session} (h : Gd s = true) : s.name.length ≤ 64 ∧ 0 ≤ s.a ∧ s.a ≤ 2147483647 ∧ 0 ≤ s.b ∧ s.b ≤ 2147483647 ∧ s.opn.length ≤ 8 := by
  unfold Gd at h
  generalize (if s.phase = 0 then (true, false, false) else (if s.phase = 1 then (true, true, false) else (if s.phase = 2 then (true, true, true) else (if s.phase = 3 then (true, false, false) else (false, false, false))))) = x at h
  obtain ⟨x1, x2, x3⟩ := x
  simp only [dA] at h
  repeat' split at h
  all_goals first | (cases h; done) | skip
  all_goals have h8 := bX h
  all_goals exact ⟨by omega, by omega, by omega, by omega, by omega, h8⟩
theorem tP {f : Frame} (h : Gc f = true) : f.data.length ≤ 512 ∧ 0 ≤ f.stream ∧ f.stream ≤ 65535 := by
  unfold Gc at h
  have hx : (if f.kind = 1 then (true, 1, 64) else (if f.kind = 2 then (true, 32, 32) else (if f.kind = 3 then (true, 1, 64) else (if f.kind = 4 then (true, 1, 512) else (if f.kind = 5 then (true, 2, 2) else (if f.kind = 6 then (true, 0, 0) else (if f.kind = 7 then (true, 0, 0) else (if f.kind = 8 then (true, 0, 8) else ((false, 0, 0) : Bool × Nat × Nat))))))))).2.2 ≤ 512 := by
    repeat' split
    all_goals simp
  generalize (if f.kind = 1 then (true, 1, 64) else (if f.kind = 2 then (true, 32, 32) else (if f.kind = 3 then (true, 1, 64) else (if f.kind = 4 then (true, 1, 512) else (if f.kind = 5 then (true, 2, 2) else (if f.kind = 6 then (true, 0, 0) else (if f.kind = 7 then (true, 0, 0) else (if f.kind = 8 then (true, 0, 8) else ((false, 0, 0) : Bool × Nat × Nat))))))))) = x at h hx
  obtain ⟨x1, x2, x3⟩ := x
  simp only [dA] at h hx
  repeat' split at h
  all_goals first | (cases h; done) | skip
  all_goals exact ⟨by omega, by omega, by omega⟩
end Go.Proofs.YtdnjanhdnibkfaaGreatDoor.Jd

namespace Go.Proofs.YtdnjanhdnibkfaaGreatDoor.Jd
open Go.Proofs.Tryz
open Go.Proofs
open Go.RowKit (Below)
set_option maxRecDepth 100000
set_option maxHeartbeats 8000000
set_option linter.unusedVariables false
set_option linter.unusedSimpArgs false

theorem bY (w : World) {x_a : Option Addr} {x_c : Nat} {x : List Int} {target : Int} (h_x : Sl w eI 1 x_a x) (n_x : x.length ≤ 1000) : Gz Tryz.prog 141 [(vs x_a x.length x_c), (vi target)] w (Value.tuple [(vi ((Hy x target).1)), (Value.bool ((Hy x target).2))].toArray) := by
 have hF := Is.refl (Hy x target)
 refine enter func141 ntmps141 (h := ?_)
 refine Z2 ?_
 refine Hr ?_
 refine Mu ?_
 refine fK ?_
 refine Mu ?_
 refine Hr ?_
 refine Z1 ?_
 refine qM ?_
 refine Kb (σ1 := Nat) (σ2 := Nat) (σ3 := Nat) (fun n_3 i_1 j_2 => []) (fun n_3 i_1 j_2 => [(0, (vs x_a x.length x_c)), (1, (vi target)), (4, (vi 0)), (5, (Value.bool false)), (6, (vi ((x.length : Nat) : Int))), (7, (vi ((i_1 : Nat) : Int))), (8, (vi ((j_2 : Nat) : Int)))]) (fun n_3 i_1 j_2 => j_2 - i_1 < n_3 ∧ Is (Gu x target (x.length + 1) 0 x.length) (Gu x target n_3 i_1 j_2) ∧ i_1 ≤ j_2 ∧ j_2 ≤ x.length ∧ i_1 ≤ j_2) (fun n_3 i_1 j_2 => n_3) (x.length + 1) 0 x.length ?_ se (List.Perm.refl _) ?_
 ·exact ⟨Nat.lt_succ_self _, Is.refl _, Qc, Qc, Qc⟩
 ·rintro (_ | n_3) i_1 j_2 ⟨hm5, hF4, hi6, hi7, hi8⟩
  ·omega
  refine Ez ?_
  refine Qp ?_
  refine Z8 ?_
  refine Bd rfl (fun hq1 => ?_) (fun hq1 => ?_)
  rotate_left
  ·refine Cu ?_
   refine Kg ?_
   refine Qp ?_
   refine Cg ?_
   refine cH ?_
   refine Aw 35 rfl (fun hq4 => ?_) (fun hq4 => ?_)
   rotate_left
   ·refine Ag 17 rfl ?_
    refine Ad Du (k := ?_)
    refine Zw ?_
    refine Ac results141 (Bk.tmp rfl z1) (fun w1 hw1 => ?_)
    exact ⟨(rq ((hF.rn2 (hF4.neg hq1)).neg hq4)), hw1.ext_out⟩
   refine Oz ?_
   refine AL3 ?_
   refine Zu ?_
   refine Ep ?_
   refine Aw 42 rfl (fun hq5 => ?_) (fun hq5 => ?_)
   ·refine Ag 9 rfl ?_
    refine An Fx (k := ?_)
    refine aC ?_
    refine Zw ?_
    refine Ac results141 (Bk.tmp rfl z1) (fun w1 hw1 => ?_)
    exact ⟨(rq (((hF.rn2 (hF4.neg hq1)).pos hq4).pos hq5)), hw1.ext_out⟩
   refine Oz ?_
   refine AL3 ?_
   refine Uu (args := [_]) (Aa call193) func193 ntmps193 ?_
   refine Z2 ?_
   refine Ew ?_
   refine Ad Og (k := ?_)
   refine Z5 ?_
   refine Av results193 z1 ?_
   refine Ep ?_
   refine Aw 48 rfl (fun hq6 => ?_) (fun hq6 => ?_)
   ·exfalso
    exact hq6 rfl
   refine Ag 2 rfl ?_
   refine An Du (k := ?_)
   refine An Du (k := ?_)
   refine aC ?_
   refine Zw ?_
   refine Ac results141 (Bk.tmp rfl z1) (fun w1 hw1 => ?_)
   exact ⟨(rq ((((hF.rn2 (hF4.neg hq1)).pos hq4).neg hq5).neg hq6)), hw1.ext_out⟩
  refine Qd ?_
  refine Fm ?_
  refine Qp ?_
  refine Wg ?_
  refine Ad (Js (r := (((i_1 : Nat) : Int) + ((j_2 : Nat) : Int))) (xC z8) runUnderlying3 runUnderlying175) (k := ?_)
  refine Ad Nu (k := ?_)
  refine Ad (Js (r := (((i_1 + j_2) / 2 : Nat) : Int)) (AG3 (x := (((i_1 : Nat) : Int) + ((j_2 : Nat) : Int))) (i_1 + j_2) z8) runUnderlying175 runUnderlying3) (k := ?_)
  refine Ew ?_
  refine Ad (Dl (n := x.length) runUnderlying24 sizeOf3 ((i_1 + j_2) / 2) (Ch.of_base h_x) (gD Da) Lp) (k := ?_)
  refine Ad (Cr isAgg3 ((i_1 + j_2) / 2) 0 (Ch.of_base h_x) (gD Da)) (k := ?_)
  refine Cg ?_
  refine Bh (args := [_, _]) (Aa call192) func192 ntmps192 ?_
  refine Mq ?_
  refine Bh (args := [_]) (Aa call242) func242 ntmps242 ?_
  refine Z2 ?_
  refine Ew ?_
  refine Ad Og (k := ?_)
  refine Z5 ?_
  refine Av results242 z1 ?_
  refine Cg ?_
  refine Aw 7 rfl (fun hq2 => ?_) (fun hq2 => ?_)
  ·exfalso
   exact hq2 rfl
  refine Ag 3 rfl ?_
  refine Te ?_
  refine Oz ?_
  refine An Mx (k := ?_)
  refine Lr ?_
  refine Av results192 z1 ?_
  refine Z0 ?_
  refine Bd rfl (fun hq3 => ?_) (fun hq3 => ?_)
  rotate_left
  ·refine T3 ?_
   refine Cg ?_
   refine Mo ?_
   refine Eu ?_
   exact Gt n_3 i_1 ((i_1 + j_2) / 2) ⟨by omega, (((hF4.pos hq1).neg hq2).neg hq3), z8, z8, z8⟩ (Nat.lt_succ_self _) se (List.Perm.refl _)
  refine Lq ?_
  refine rT ?_
  refine Eu ?_
  exact Gt n_3 (((i_1 + j_2) / 2) + 1) j_2 ⟨by omega, (((hF4.pos hq1).neg hq2).pos hq3), z8, z8, z8⟩ (Nat.lt_succ_self _) se (List.Perm.refl _)

end Go.Proofs.YtdnjanhdnibkfaaGreatDoor.Jd

namespace Go.Proofs.YtdnjanhdnibkfaaGreatDoor.Jd
open Go.Proofs.Tryz
open Go.Proofs
open Go.RowKit (Below)
set_option maxRecDepth 100000
set_option maxHeartbeats 8000000
set_option linter.unusedVariables false
set_option linter.unusedSimpArgs false

theorem Xr (w : World) {s_opn_a : Option Addr} {s_opn_c : Nat} {ea0 : Addr} {ea1 : Addr} {ea2 : Addr} {ea3 : Addr} {ea4 : Addr} {ea5 : Addr} {ea6 : Addr} {ea7 : Addr} {ea8 : Addr} {ea9 : Addr} {ea10 : Addr} {ea11 : Addr} {ea12 : Addr} {ea13 : Addr} {ea14 : Addr} {ea15 : Addr} {s : Session} {stream : Int} (h_s_opn : Sl w eI 1 s_opn_a s.opn) (n_s_opn : s.opn.length ≤ 1000) (hG : Gl w) (hE : Er w ea0 ea1 ea2 ea3 ea4 ea5 ea6 ea7 ea8 ea9 ea10 ea11 ea12 ea13 ea14 ea15) : Calls Tryz.prog 21 (List.toArray [(Value.agg [(vi s.phase), (vt s.name), (vi s.handle.slot), (vi s.handle.gen), (vi s.a), (vi s.b), (vs s_opn_a s.opn.length s_opn_c)].toArray), (vi stream)]) w fun e w2 => ∃ a1 : Option Addr, ∃ c1 : Nat, ∃ B : Am, e = .returned (Value.tuple [(Value.agg [(vi ((De s stream).1.phase)), (vt ((De s stream).1.name)), (vi ((De s stream).1.handle.slot)), (vi ((De s stream).1.handle.gen)), (vi ((De s stream).1.a)), (vi ((De s stream).1.b)), (vs a1 ((De s stream).1.opn.length) c1)].toArray), (vi ((De s stream).2))].toArray) ∧ Dz w w2 B ∧ Hb B eI 1 a1 (De s stream).1.opn ∧ (De s stream).1.opn.length ≤ 1000 := by
 have hF := Is.refl (De s stream)
 refine enter func21 ntmps21 (h := ?_)
 refine Z2 ?_
 refine Aj Ae z90 (k := fun r1 hr1 => ?_)
 refine Aj Ae Qh (k := fun r2 hr2 => ?_)
 refine Aj Ae A4 (k := fun r3 hr3 => ?_)
 refine Z1 ?_
 refine qM ?_
 refine qS ?_
 refine Co (Aa call22) (fun w1 hw1 => Qb w1 (s := s) (h_s_opn := (Ch.of_base h_s_opn) w1 hw1) (n_s_opn := Nm)) (k := ?_)
 refine rV ?_
 refine Dc rfl (fun hq1 => ?_) (fun hq1 => ?_)
 ·refine Bw ?_
  refine iM ?_
  obtain ⟨Thgl2, fhgl2, hgl2⟩ := hE.v0
  refine mQ ?_
  refine iO ?_
  refine Sm ?_
  obtain ⟨Thgl3, fhgl3, hgl3⟩ := hE.v0
  refine jF ?_
  refine qR ?_
  refine Ub ?_
  refine iG ?_
  refine qN ?_
  refine Ac results21 (Bk.agg isAgg26 sizeOf26 rfl me rfl z1) (fun w1 hw1 => ?_)
  exact ⟨none, 0, [], (rq (hF.t hq1)), (hw1.fresh_out.sub Mt), (rn (hF.t hq1)), (rl (hF.t hq1))⟩
 have hfhq1 := Xb uF
 refine qS ?_
 refine Hk ?_
 refine Co (Aa call20) (fun w1 hw1 => Mm w1 (s := s) (stream := stream) (h_s_opn := (Ch.of_base h_s_opn) w1 hw1) (n_s_opn := Nm)) (k := ?_)
 refine rV ?_
 refine Dc rfl (fun hq4 => ?_) (fun hq4 => ?_)
 ·refine Bw ?_
  refine iM ?_
  obtain ⟨Thgl5, fhgl5, hgl5⟩ := hE.v5
  refine rX ?_
  refine iO ?_
  refine Sm ?_
  obtain ⟨Thgl6, fhgl6, hgl6⟩ := hE.v0
  refine jG ?_
  refine Co (args := [(Value.iface 400 (.pointer (some ea5))), (Value.iface 400 (.pointer (some ea0)))]) (Aa call81) (fun w1 hw1 => Hi w1 hE.n5_0 (hE.ext hw1.ext_out).b5 (hE.ext hw1.ext_out).b0) (k := ?_)
  refine Z1 ?_
  refine Qu ?_
  obtain ⟨Thgl7, fhgl7, hgl7⟩ := hE.v1
  refine mP ?_
  refine Co (args := [(Value.iface 400 (.pointer (some ea5))), (Value.iface 400 (.pointer (some ea1)))]) (Aa call81) (fun w1 hw1 => Hi w1 hE.n5_1 (hE.ext hw1.ext_out).b5 (hE.ext hw1.ext_out).b1) (k := ?_)
  refine Z1 ?_
  refine Qu ?_
  obtain ⟨Thgl8, fhgl8, hgl8⟩ := hE.v5
  refine rW ?_
  refine Co (args := [(Value.iface 400 (.pointer (some ea5))), (Value.iface 400 (.pointer (some ea5)))]) (Aa call81) (fun w1 hw1 => Hl w1) (k := ?_)
  refine Z1 ?_
  refine Ub ?_
  refine iG ?_
  refine qN ?_
  refine Ac results21 (Bk.agg isAgg26 sizeOf26 rfl me rfl z1) (fun w1 hw1 => ?_)
  exact ⟨none, 0, [], (rq ((hF.f hq1).t hq4)), (hw1.fresh_out.sub Mt), (rn ((hF.f hq1).t hq4)), (rl ((hF.f hq1).t hq4))⟩
 refine Br ?_
 refine A8 ?_
 refine Vz ?_
 refine Oy ?_
 refine F2 ?_
 refine J4 ?_
 refine Uz (n := s.opn.length) (x0 := default) Ev underlying24 Au rfl ⟨by omega, by omega⟩ (k := fun ax1 Bx1 hox1 => ?_)
 refine Ew ?_
 refine Ys (n := s.opn.length) Ev underlying24 Au hox1 q0 (Ch.of_base h_s_opn) Hs rfl (kk := fun Bx2 hox2 => ?_)
 refine I5 ?_
 refine Cg ?_
 refine Bh (args := [_, _]) (Aa call62) func62 ntmps62 ?_
 refine Z2 ?_
 refine lS ?_
 refine lZ ?_
 refine Lt ?_
 refine Ka (σ1 := Nat) (σ2 := Nat) (fun n_2 x_1 => (Bx2 ++ ((r3, oc [(vi 0), (vt ([] : Ai)), (vi 0), (vi 0), (vi 0), (vi 0), (vs none 0 0)] 26) :: ((r2, oc [(vi stream)] 3) :: ((r1, oc [(vi s.phase), (vt s.name), (vi s.handle.slot), (vi s.handle.gen), (vi s.a), (vi s.b), (vs s_opn_a s.opn.length s_opn_c)] 26) :: []))))) (fun n_2 x_1 => [(0, (vs ax1 s.opn.length s.opn.length)), (1, (Value.func (.func 61) [].toArray [(Value.pointer (some ⟨r2, 0, none⟩))].toArray)), (4, (vi 0)), (7, (vi ((s.opn.length : Nat) : Int))), (8, (vi ((x_1 : Nat) : Int)))]) (fun n_2 x_1 => s.opn.length - x_1 < n_2 ∧ Is (Im s stream (s.opn.length + 1) 0) (Im s stream n_2 x_1) ∧ x_1 ≤ s.opn.length) (fun n_2 x_1 => n_2) (s.opn.length + 1) 0 ?_ se (List.Perm.refl _) ?_
 ·exact ⟨Nat.lt_succ_self _, Is.refl _, Qc⟩
 ·rintro (_ | n_2) x_1 ⟨hm4, hF3, hi5⟩
  ·omega
  refine Tx ?_
  refine Bd rfl (fun hq9 => ?_) (fun hq9 => ?_)
  rotate_left
  ·refine Cu ?_
   refine Kg ?_
   refine Yc ?_
   refine Av results114 z1 ?_
   refine Hc ?_
   refine cO ?_
   refine eV ?_
   refine Qr ?_
   refine Av results62 z1 ?_
   refine E1 ?_
   refine Z0 ?_
   refine F3 ?_
   refine Z5 ?_
   refine Ac results21 (Bk.agg isAgg26 sizeOf26 rfl me rfl z1) (fun w1 hw1 => ?_)
   exact ⟨ax1, s.opn.length, Bx2, (rq (((hF.f hq1).f hq4).ok1 (hF3.neg hq9))), (Aq (L := Bx2) (hw1.perm (List.Perm.refl _)) rfl.symm), (by rw [(((hF.f hq1).f hq4).ok1 (hF3.neg hq9)).eq]; exact (hox2.slb Au)), (rl (((hF.f hq1).f hq4).ok1 (hF3.neg hq9)))⟩
  refine Qd ?_
  refine Vx ?_
  refine uU ?_
  refine Ad (Dl (n := s.opn.length) runUnderlying24 sizeOf3 x_1 (hox2.slj Au) (gD Da) Lp) (k := ?_)
  refine Ad (Cr isAgg3 x_1 0 (hox2.slj Au) (gD Da)) (k := ?_)
  refine Bh (args := [_, _]) (Aa call61) func61 ntmps61 ?_
  refine Mq ?_
  refine Hk ?_
  refine mK ?_
  refine Av results61 z1 ?_
  refine Z0 ?_
  refine Bd rfl (fun hq10 => ?_) (fun hq10 => ?_)
  rotate_left
  ·refine Br ?_
   refine iK ?_
   exact Hw n_2 (x_1 + 1) ⟨by omega, ((hF3.pos hq9).neg hq10), z8⟩ (Nat.lt_succ_self _) se (List.Perm.refl _)
  refine Z3 ?_
  refine iB ?_
  refine Av results114 z1 ?_
  refine Hc ?_
  refine cO ?_
  refine Bd rfl (fun hq11 => ?_) (fun hq11 => ?_)
  ·refine Bw ?_
   refine Lq ?_
   refine Qr ?_
   refine Av results62 z1 ?_
   refine E1 ?_
   refine Z0 ?_
   refine F3 ?_
   refine Z5 ?_
   refine Ac results21 (Bk.agg isAgg26 sizeOf26 rfl me rfl z1) (fun w1 hw1 => ?_)
   exact ⟨ax1, s.opn.length, Bx2, (rq ((((hF.f hq1).f hq4).er1 ((hF3.pos hq9).pos hq10)).pos hq11)), (Aq (L := Bx2) (hw1.perm (List.Perm.refl _)) rfl.symm), (by rw [((((hF.f hq1).f hq4).er1 ((hF3.pos hq9).pos hq10)).pos hq11).eq]; exact (hox2.slb Au)), (rl ((((hF.f hq1).f hq4).er1 ((hF3.pos hq9).pos hq10)).pos hq11))⟩
  refine Qd ?_
  refine vC ?_
  refine Wg ?_
  refine Z1 ?_
  refine Fm ?_
  refine L1 (σ1 := Nat) (σ2 := List Int) (σ3 := Option Addr) (σ4 := Nat) (σ5 := Am) (σ6 := Nat) (σ7 := Nat) (fun n_9 s_6 s_6a s_6c s_6B i_7 j_8 => (s_6B ++ ((r3, oc [(vi 0), (vt ([] : Ai)), (vi 0), (vi 0), (vi 0), (vi 0), (vs none 0 0)] 26) :: ((r2, oc [(vi stream)] 3) :: ((r1, oc [(vi s.phase), (vt s.name), (vi s.handle.slot), (vi s.handle.gen), (vi s.a), (vi s.b), (vs s_opn_a s.opn.length s_opn_c)] 26) :: []))))) (fun n_9 s_6 s_6a s_6c s_6B i_7 j_8 => [(0, (vs s_6a s_6.length s_6c)), (1, (Value.func (.func 61) [].toArray [(Value.pointer (some ⟨r2, 0, none⟩))].toArray)), (4, (vs none 0 0)), (5, (vi ((i_7 : Nat) : Int))), (6, (vi ((j_8 : Nat) : Int)))]) (fun n_9 s_6 s_6a s_6c s_6B i_7 j_8 => s_6.length - j_8 < n_9 ∧ Is (Ga s stream x_1 (s.opn.length - (x_1 + 1) + 1) s.opn x_1 (x_1 + 1)) (Ga s stream x_1 n_9 s_6 i_7 j_8) ∧ Bi eI 1 3 s_6a s_6c s_6B s_6 ∧ (i_7 < j_8 ∧ j_8 ≤ s.opn.length) ∧ s_6.length = s.opn.length) (fun n_9 s_6 s_6a s_6c s_6B i_7 j_8 => n_9) (s.opn.length - (x_1 + 1) + 1) s.opn ax1 s.opn.length Bx2 x_1 (x_1 + 1) ?_ se (List.Perm.refl _) ?_
  ·exact ⟨Nat.lt_succ_self _, Is.refl _, hox2, (by first | omega | assumption | rfl), (by first | omega | assumption | rfl)⟩
  ·rintro (_ | n_9) s_6 s_6a s_6c s_6B i_7 j_8 ⟨hm11, hF10, hs_6, hi12, hi13⟩
   ·omega
   refine Ez ?_
   refine Qp ?_
   refine fK ?_
   refine Z8 ?_
   refine Bd rfl (fun hq12 => ?_) (fun hq12 => ?_)
   rotate_left
   ·refine Cu ?_
    refine Kg ?_
    refine Qp ?_
    have hle14 := hs_6.le'
    have hld15 : (s_6.drop i_7).length = s_6.length - i_7 := List.length_drop
    refine Ad (Gh (n := s_6.length) (c := s_6c) (i := ((i_7 : Nat) : Int)) i_7 (s_6.drop i_7).length runUnderlying24 sizeOf3 (hlo := Da) (hnc := Zm) (hm := uC)) (k := ?_)
    have htk16 : (s_6.take i_7).length = i_7 := by rw [List.length_take]; omega
    refine kH (dn := (s_6.drop i_7).length) (x0 := default) i_7 Ev zeroValue3 rfl underlying24 Au (hs_6.take Au i_7) q0 (Nat.le_of_eq htk16) Qg (kk := fun Bx3 hox3 => ?_)
    refine Z0 ?_
    refine Qp ?_
    have hl17 : ((s_6.take i_7).take i_7).length = i_7 := by rw [List.length_take]; omega
    have hl17c := hox3.le'
    refine Ad (Ju ((s_6.take i_7).take i_7).length runUnderlying24 (fun w => ⟨_, sizeOf3 w⟩) (hm := z8) (hi := z8)) (k := ?_)
    refine Z5 ?_
    refine Av results62 z1 ?_
    refine E1 ?_
    refine Z0 ?_
    refine F3 ?_
    refine Z5 ?_
    refine Ac results21 (Bk.agg isAgg26 sizeOf26 rfl me rfl z1) (fun w1 hw1 => ?_)
    exact ⟨s_6a, s_6c, Bx3, (rq (((((hF.f hq1).f hq4).er1 ((hF3.pos hq9).pos hq10)).neg hq11).rn3 (hF10.neg hq12))), (Aq (L := Bx3) (hw1.perm (List.Perm.refl _)) rfl.symm), (by rw [(((((hF.f hq1).f hq4).er1 ((hF3.pos hq9).pos hq10)).neg hq11).rn3 (hF10.neg hq12)).eq]; exact ((hox3.take Au i_7).slb Au)), (rl (((((hF.f hq1).f hq4).er1 ((hF3.pos hq9).pos hq10)).neg hq11).rn3 (hF10.neg hq12)))⟩
   refine Qd ?_
   refine qM ?_
   refine Qp ?_
   refine Ad (Dl (n := s_6.length) runUnderlying24 sizeOf3 j_8 (hs_6.slj Au) (gD Da) Lp) (k := ?_)
   refine Ad (Cr isAgg3 j_8 0 (hs_6.slj Au) (gD Da)) (k := ?_)
   refine Ew ?_
   refine Bh (args := [_, _]) (Aa call61) func61 ntmps61 ?_
   refine Mq ?_
   refine Hk ?_
   refine mK ?_
   refine Av results61 z1 ?_
   refine Sj ?_
   refine Bd rfl (fun hq13 => ?_) (fun hq13 => ?_)
   rotate_left
   ·refine Br ?_
    refine mA ?_
    refine rT ?_
    exact oW n_9 s_6 s_6a s_6c s_6B i_7 (j_8 + 1) ⟨by first | omega | (simp only [List.length_set]; omega), ((hF10.pos hq12).neg hq13), hs_6, tW, tW⟩ (Nat.lt_succ_self _) se (List.Perm.refl _)
   refine Qp ?_
   refine Cg ?_
   refine Ad (Dl (n := s_6.length) runUnderlying24 sizeOf3 i_7 (hs_6.slj Au) (gD Da) Lp) (k := ?_)
   refine Jr i_7 (s_6.getD j_8 default) sizeOf3 Au hs_6 q0 tW (k := fun Bs1 hos1 => ?_)
   refine wC 0 (vs s_6a ((s_6.set i_7 (s_6.getD j_8 default)).length) s_6c) rfl (by simp only [List.length_set]) ?_
   refine Z0 ?_
   refine Lq ?_
   refine rT ?_
   refine mA ?_
   refine rT ?_
   exact oW n_9 (s_6.set i_7 (s_6.getD j_8 default)) s_6a s_6c Bs1 (i_7 + 1) (j_8 + 1) ⟨by first | omega | (simp only [List.length_set]; omega), ((hF10.pos hq12).pos hq13), hos1, tW, tW⟩ (Nat.lt_succ_self _) se (List.Perm.refl _)

end Go.Proofs.YtdnjanhdnibkfaaGreatDoor.Jd

namespace Go.Proofs.YtdnjanhdnibkfaaGreatDoor.Jd
open Go.Proofs.Tryz
open Go.Proofs
open Go.RowKit (Below)
set_option maxRecDepth 100000
set_option maxHeartbeats 8000000
set_option linter.unusedVariables false
set_option linter.unusedSimpArgs false

theorem dE {N : Nat} {D : List Deferred} {b0 : World} {L : Am} {E : Eg} {ty : TypeId} {x y : Operand} {tys : Array TypeId} {v_a s_a : Option Addr} {v_c s_c lo n cc : Nat} {s_B : Am} {s : List Int} (he : ∃ r cs T, v_a = some (⟨r, 0, none⟩ : Addr) ∧ b0.heap[r]? = some (.cells cs T (0, 0)) ∧ r ∉ keys s_B) (ho : Bi eI 1 3 s_a s_c s_B s) (hs : 0 < s_c)
  (hB : ∀ p ∈ s_B, p ∈ L) (hx : ev E x = some (.slice v_a 1 v_c) := by rfl) (hy : ev E y = some (.slice (Ky s_a 1 lo s_c) n cc) := by rfl) :
  Cm Tryz.prog N D b0 (keys s_B) L E (.call { callee := .value (.func 194), args := #[x, y], argTypes := tys }) ty (.bool false) := fun ac w ha hw => by
 obtain ⟨r, cs, T, rfl, hr, hnr⟩ := he
 rcases ho with ⟨rfl, rfl, rfl⟩ | ⟨r', cur, fz, rfl, rfl, hfz, h1, h2, h3⟩
 ·omega
 ·have hh : w.heap[r']? = some (.cells cur 3 fz) := hw.own _ (hB _ List.mem_cons_self)
  have hv : w.heap[r]? = some (.cells cs T (0, 0)) := (hw.same r (Array.getElem?_eq_some_iff.1 hr).1 hnr).trans hr
  have hne : r ≠ r' := fun e => hnr (by subst e; simp [keys])
  obtain ⟨ad, hoff, had⟩ : ∃ ad : Addr, Ky (some (⟨r', 0, none⟩ : Addr)) 1 lo s_c = some ad ∧ ad.block = r' := by
   unfold Ky
   split
   ·exact ⟨_, rfl, rfl⟩
   ·exact ⟨_, rfl, by show (Addr.add ⟨r', 0, none⟩ _).block = r'; rw [Ao]⟩
  have hfr : ∀ k, w.frozen? ⟨r, k, none⟩ = false := fun k => by simp [World.frozen?, hv]
  have hrun := Lib.run_overlaps_apart (P := Tryz.prog) w 24 4 3 underlying24 1 sizeOf3 (⟨r, 0, none⟩ : Addr) ad 1 v_c n cc (by rw [had]; exact hne) T 3 cs.size cur.size (by simp [World.shape?, hv]) (by rw [had]; simp [World.shape?, hh]) (by rw [h2]; omega) (hfr 0) (hfr cs.size)
  have h8 := @run_callFunc_extern Tryz.prog 194 _ (Extern.SlicesOverlaps.overlaps #[24, 24] #[4]) func194 z6 z6 z6 z6
  rw [hoff] at hy
  simp only [Em, execOp, resolve, Sem.run_bind, Act.eval, Deferred.ofValue, Sem.run_pure, Result.andThen_ok]
  simp only [invoke, List.map_toArray, List.map_cons, List.map_nil, ha.eval hx, ha.eval hy]
  have h9 := h8 #[vs (some { block := r, off := 0 }) 1 v_c, vs (some ad) n cc] w
  rw [hrun] at h9
  simpa using h9
theorem Xs (w : World) {s_a : Option Addr} {s_c : Nat} {s_B : Am} {v_a : Option Addr} {v_c : Nat} {s : List Int} {i : Int} {x : Int} (o_s : Bi eI 1 3 s_a s_c s_B s) (b_s : ∀ p ∈ s_B, w.heap[p.1]? = some p.2) (n_s : s.length ≤ 1000000) (h_v : Sl w eI 1 v_a ([x] : List Int)) (d_v : ∀ m ∈ keys s_B, oY v_a ([x] : List Int) m) (e_v : ∃ r cs T, v_a = some ⟨r, 0, none⟩ ∧ w.heap[r]? = some (.cells cs T (0, 0)) ∧ r ∉ keys s_B) (hi : 0 ≤ i ∧ i ≤ s.length) : Calls Tryz.prog 142 (List.toArray [(vs s_a s.length s_c), (vi i), (vs v_a 1 v_c)]) w fun e w2 => ∃ a1 : Option Addr, ∃ c1 : Nat, ∃ B1 : Am, e = .returned (vs a1 ((Nx s i.toNat x).length) c1) ∧ Tr w w2 s_B B1 ∧ Bi eI 1 3 a1 c1 B1 (Nx s i.toNat x) := by
 have hF := Is.refl (Nx s i.toNat x)
 have hiN : i.toNat ≤ s.length := by omega
 have hi1 : (i + 1).toNat = i.toNat + 1 := by omega
 have hMk : ∀ k ∈ keys s_B, k < w.heap.size := fun k hk => by
  obtain ⟨o, ho⟩ := Ki hk
  exact (Array.getElem?_eq_some_iff.1 (b_s _ ho)).1
 have hle0 := o_s.le'
 refine AC5 (keys s_B) (s_B ++ []) (by simpa using b_s) (fun p hp => Ul (by simpa using hp)) (by simpa using o_s.nd) func142 ntmps142 (h := ?_)
 refine Z2 ?_
 refine Ew ?_
 have hle1 := o_s.le'
 have hld2 : (s.drop i.toNat).length = s.length - i.toNat := List.length_drop
 refine Ad (Gh (n := s.length) (c := s_c) (i := i) i.toNat (s.drop i.toNat).length runUnderlying24 sizeOf3 (hlo := Da) (hnc := Zm) (hm := uC)) (k := ?_)
 refine Jm ?_
 refine fK ?_
 refine Hc ?_
 refine cO ?_
 refine Pa ?_
 refine Z3 ?_
 refine fK ?_
 refine Jj ?_
 refine Qp ?_
 refine cO ?_
 refine Bd rfl (fun hq3 => ?_) (fun hq3 => ?_)
 ·refine Bw ?_
  refine Sv ?_
  refine Ar (s ++ ([x] : List Int)) rfl Ev underlying24 Au o_s q0 (Ch.of_world h_v d_v) ⟨by omega, by omega⟩ (n := s.length) (m := 1) (k := fun ax1 cx1 Bx1 hox1 => ?_)
  have hal1 : (s ++ ([x] : List Int)).length = s.length + 1 := by first | rfl | exact List.length_append | simp
  refine Qr ?_
  refine Ac results142 z1 (fun w1 hw1 => ?_)
  have hcan0 : (s ++ ([x] : List Int)) = (Nx s i.toNat x) := by (first | exact gU z8 | (simp only [hi1]; exact bM hiN rfl (List.take_left' (by rw [List.length_take]; omega)) z92) | (simp only [hi1]; exact Wy z8 rfl))
  have hlen0 : (s ++ ([x] : List Int)).length = (Nx s i.toNat x).length := by first | (rw [← hcan0]; done) | (rw [← hcan0]; first | rfl | (simp; done) | (simp only [List.length_append, List.length_take, List.length_drop, List.length_set, List.length_replicate, List.length_cons, List.length_nil, List.length_map, Cq, Ce]; omega) | (simp; omega))
  exact ⟨ax1, cx1, Bx1, qK, ((hw1.perm (List.Perm.refl _)).tr_out.sub (by first | exact List.sublist_append_left _ _ | exact List.nil_sublist _)), (hcan0 ▸ hox1)⟩
 refine cQ ?_
 refine Qp ?_
 refine Z6 ?_
 refine Ad (xM runUnderlying24) (k := ?_)
 refine Ad Uh (k := ?_)
 refine Z0 ?_
 refine Bd rfl (fun hq4 => ?_) (fun hq4 => ?_)
 ·refine Bw ?_
  refine Sv ?_
  have hl5 : (s.take i.toNat).length = i.toNat := by rw [List.length_take]; omega
  have hl5c := o_s.le'
  refine Ad (Ju (s.take i.toNat).length runUnderlying24 (fun w => ⟨_, sizeOf3 w⟩) (hm := z8) (hi := z8)) (k := ?_)
  refine Qi ?_
  refine Z6 ?_
  refine Sq ?_
  refine bD (i := ((((s.length : Nat) : Int) + 1) - i)) (n := (s.take i.toNat).length) (c := s_c) (x0 := default) (xs := (s.take i.toNat)) (m := ((((s.length : Nat) : Int) + 1) - i).toNat) Ev underlying24 underlying3 Au rfl ((o_s.take Au i.toNat).slj Au) Da Da Da ⟨by first | exact ix, by first | exact ix⟩ z8 (k := fun ax2 cx2 Bx2 hox2 => ?_)
  refine Ew ?_
  have hle6 := hox2.le'
  have hld7 : (((s.take i.toNat) ++ List.replicate (((((s.length : Nat) : Int) + 1) - i).toNat) default).drop i.toNat).length = ((s.take i.toNat) ++ List.replicate (((((s.length : Nat) : Int) + 1) - i).toNat) default).length - i.toNat := List.length_drop
  refine Ad (Gh (n := ((s.take i.toNat) ++ List.replicate (((((s.length : Nat) : Int) + 1) - i).toNat) default).length) (c := cx2) (i := i) i.toNat (((s.take i.toNat) ++ List.replicate (((((s.length : Nat) : Int) + 1) - i).toNat) default).drop i.toNat).length runUnderlying24 sizeOf3 (hlo := Da) (hnc := Zm) (hm := uC)) (k := ?_)
  refine Cg ?_
  refine bB (dn := (((s.take i.toNat) ++ List.replicate (((((s.length : Nat) : Int) + 1) - i).toNat) default).drop i.toNat).length) (sn := 1) i.toNat 1 (((s.take i.toNat) ++ List.replicate (((((s.length : Nat) : Int) + 1) - i).toNat) default).take i.toNat ++ ([x] : List Int).take 1 ++ ((s.take i.toNat) ++ List.replicate (((((s.length : Nat) : Int) + 1) - i).toNat) default).drop (i.toNat + 1)) rfl Ev underlying24 Au hox2 q0 (Ch.of_world h_v d_v) Qg Qg Qg Qg (kk := fun Bx3 hox3 => ?_)
  refine Jk ?_
  refine AM0 ?_
  refine Fi ?_
  refine Ay dM (k := ?_)
  have hle8 := hox3.le'
  have hld9 : ((((s.take i.toNat) ++ List.replicate (((((s.length : Nat) : Int) + 1) - i).toNat) default).take i.toNat ++ ([x] : List Int).take 1 ++ ((s.take i.toNat) ++ List.replicate (((((s.length : Nat) : Int) + 1) - i).toNat) default).drop (i.toNat + 1)).drop ((i + 1).toNat)).length = (((s.take i.toNat) ++ List.replicate (((((s.length : Nat) : Int) + 1) - i).toNat) default).take i.toNat ++ ([x] : List Int).take 1 ++ ((s.take i.toNat) ++ List.replicate (((((s.length : Nat) : Int) + 1) - i).toNat) default).drop (i.toNat + 1)).length - ((i + 1).toNat) := List.length_drop
  refine Ay (Gh (n := ((s.take i.toNat) ++ List.replicate (((((s.length : Nat) : Int) + 1) - i).toNat) default).length) (c := cx2) (i := (i + 1)) ((i + 1).toNat) ((((s.take i.toNat) ++ List.replicate (((((s.length : Nat) : Int) + 1) - i).toNat) default).take i.toNat ++ ([x] : List Int).take 1 ++ ((s.take i.toNat) ++ List.replicate (((((s.length : Nat) : Int) + 1) - i).toNat) default).drop (i.toNat + 1)).drop ((i + 1).toNat)).length runUnderlying24 sizeOf3 (hlo := Da) (hnc := Zm) (hm := uC)) (k := ?_)
  refine Mp ?_
  have hle10 := o_s.le'
  have hld11 : (s.drop i.toNat).length = s.length - i.toNat := List.length_drop
  refine Ay (Gh (n := s.length) (c := s_c) (i := i) i.toNat (s.drop i.toNat).length runUnderlying24 sizeOf3 (hlo := Da) (hnc := Zm) (hm := uC)) (k := ?_)
  refine bC (dn := ((((s.take i.toNat) ++ List.replicate (((((s.length : Nat) : Int) + 1) - i).toNat) default).take i.toNat ++ ([x] : List Int).take 1 ++ ((s.take i.toNat) ++ List.replicate (((((s.length : Nat) : Int) + 1) - i).toNat) default).drop (i.toNat + 1)).drop ((i + 1).toNat)).length) (sn := (s.drop i.toNat).length) ((i + 1).toNat) (s.length - i.toNat) ((((s.take i.toNat) ++ List.replicate (((((s.length : Nat) : Int) + 1) - i).toNat) default).take i.toNat ++ ([x] : List Int).take 1 ++ ((s.take i.toNat) ++ List.replicate (((((s.length : Nat) : Int) + 1) - i).toNat) default).drop (i.toNat + 1)).take ((i + 1).toNat) ++ (s.drop i.toNat).take (s.length - i.toNat) ++ (((s.take i.toNat) ++ List.replicate (((((s.length : Nat) : Int) + 1) - i).toNat) default).take i.toNat ++ ([x] : List Int).take 1 ++ ((s.take i.toNat) ++ List.replicate (((((s.length : Nat) : Int) + 1) - i).toNat) default).drop (i.toNat + 1)).drop ((i + 1).toNat + (s.length - i.toNat))) rfl Ev underlying24 Au hox3 q0 (Ch.off (o_s.slj Au (by intro p hp; first | exact hp | (simp [hp]; done))) i.toNat s_c Zm) Qg Qg Qg Qg (kk := fun Bx5 hox5 => ?_)
  refine eZ ?_
  refine Jm ?_
  refine Qr ?_
  refine Ac results142 z1 (fun w1 hw1 => ?_)
  have hcan0 : ((((s.take i.toNat) ++ List.replicate (((((s.length : Nat) : Int) + 1) - i).toNat) default).take i.toNat ++ ([x] : List Int).take 1 ++ ((s.take i.toNat) ++ List.replicate (((((s.length : Nat) : Int) + 1) - i).toNat) default).drop (i.toNat + 1)).take ((i + 1).toNat) ++ (s.drop i.toNat).take (s.length - i.toNat) ++ (((s.take i.toNat) ++ List.replicate (((((s.length : Nat) : Int) + 1) - i).toNat) default).take i.toNat ++ ([x] : List Int).take 1 ++ ((s.take i.toNat) ++ List.replicate (((((s.length : Nat) : Int) + 1) - i).toNat) default).drop (i.toNat + 1)).drop ((i + 1).toNat + (s.length - i.toNat))) = (Nx s i.toNat x) := by (first | exact gU z8 | (simp only [hi1]; exact bM hiN rfl (List.take_left' (by rw [List.length_take]; omega)) z92) | (simp only [hi1]; exact Wy z8 rfl))
  have hlen0 : ((s.take i.toNat) ++ List.replicate (((((s.length : Nat) : Int) + 1) - i).toNat) default).length = (Nx s i.toNat x).length := by first | (rw [← hcan0]; done) | (rw [← hcan0]; first | rfl | (simp; done) | (simp only [List.length_append, List.length_take, List.length_drop, List.length_set, List.length_replicate, List.length_cons, List.length_nil, List.length_map, Cq, Ce]; omega) | (simp; omega))
  exact ⟨ax2, cx2, Bx5, qK, ((hw1.perm (List.Perm.refl _)).tr_out.sub (by first | exact List.sublist_append_left _ _ | exact List.nil_sublist _)), (hcan0 ▸ hox5)⟩
 refine Qd ?_
 refine Qp ?_
 refine Cg ?_
 refine Wg ?_
 refine Ad (Ju (s.length + 1) runUnderlying24 (fun w => ⟨_, sizeOf3 w⟩) (hm := z8) (hi := z8)) (k := ?_)
 refine Jj ?_
 refine Qp ?_
 refine Qi ?_
 refine Wg ?_
 have hle12 := o_s.le'
 have hld13 : (s.drop ((i + 1).toNat)).length = s.length - ((i + 1).toNat) := List.length_drop
 refine Ad (Gh (n := (s.length + 1)) (c := s_c) (i := (i + 1)) ((i + 1).toNat) ((s.length + 1) - (i + 1).toNat) runUnderlying24 sizeOf3 (hlo := Da) (hnc := Zm) (hm := uC)) (k := ?_)
 refine Ad (dE e_v o_s z8 (by intro p hp; simp [hp])) (k := ?_)
 refine Sn ?_
 refine Ez ?_
 refine AM0 ?_
 refine Fi ?_
 refine Ay dM (k := ?_)
 have hle14 := o_s.le'
 have hld15 : (s.drop ((i + 1).toNat)).length = s.length - ((i + 1).toNat) := List.length_drop
 refine Ay (Gh (n := (s.length + 1)) (c := s_c) (i := (i + 1)) ((i + 1).toNat) ((s.length + 1) - (i + 1).toNat) runUnderlying24 sizeOf3 (hlo := Da) (hnc := Zm) (hm := uC)) (k := ?_)
 refine Mp ?_
 have hle16 := o_s.le'
 have hld17 : (s.drop i.toNat).length = s.length - i.toNat := List.length_drop
 refine Ay (Gh (n := (s.length + 1)) (c := s_c) (i := i) i.toNat ((s.length + 1) - i.toNat) runUnderlying24 sizeOf3 (hlo := Da) (hnc := Zm) (hm := uC)) (k := ?_)
 refine bC (dn := ((s.length + 1) - (i + 1).toNat)) (sn := ((s.length + 1) - i.toNat)) ((i + 1).toNat) (s.length - i.toNat) (s.take ((i + 1).toNat) ++ (s.drop i.toNat).take (s.length - i.toNat) ++ s.drop ((i + 1).toNat + (s.length - i.toNat))) rfl Ev underlying24 Au o_s q0 (Ch.off (o_s.slj Au (by intro p hp; first | exact hp | (simp [hp]; done))) i.toNat s_c Zm) Qg Qg Qg Qg (kk := fun Bx7 hox7 => ?_)
 refine eZ ?_
 refine Z0 ?_
 refine Qp ?_
 have hle18 := hox7.le'
 have hld19 : ((s.take ((i + 1).toNat) ++ (s.drop i.toNat).take (s.length - i.toNat) ++ s.drop ((i + 1).toNat + (s.length - i.toNat))).drop i.toNat).length = (s.take ((i + 1).toNat) ++ (s.drop i.toNat).take (s.length - i.toNat) ++ s.drop ((i + 1).toNat + (s.length - i.toNat))).length - i.toNat := List.length_drop
 refine Ad (Gh (n := (s.length + 1)) (c := s_c) (i := i) i.toNat ((s.take ((i + 1).toNat) ++ (s.drop i.toNat).take (s.length - i.toNat) ++ s.drop ((i + 1).toNat + (s.length - i.toNat))).drop i.toNat).length runUnderlying24 sizeOf3 (hlo := Da) (hnc := Zm) (hm := uC)) (k := ?_)
 refine Cg ?_
 refine bB (dn := ((s.take ((i + 1).toNat) ++ (s.drop i.toNat).take (s.length - i.toNat) ++ s.drop ((i + 1).toNat + (s.length - i.toNat))).drop i.toNat).length) (sn := 1) i.toNat 1 ((s.take ((i + 1).toNat) ++ (s.drop i.toNat).take (s.length - i.toNat) ++ s.drop ((i + 1).toNat + (s.length - i.toNat))).take i.toNat ++ ([x] : List Int).take 1 ++ (s.take ((i + 1).toNat) ++ (s.drop i.toNat).take (s.length - i.toNat) ++ s.drop ((i + 1).toNat + (s.length - i.toNat))).drop (i.toNat + 1)) rfl Ev underlying24 Au hox7 q0 (Ch.of_world h_v d_v) Qg Qg Qg Qg (kk := fun Bx8 hox8 => ?_)
 refine Jm ?_
 refine Qr ?_
 refine Ac results142 z1 (fun w1 hw1 => ?_)
 have hcan0 : ((s.take ((i + 1).toNat) ++ (s.drop i.toNat).take (s.length - i.toNat) ++ s.drop ((i + 1).toNat + (s.length - i.toNat))).take i.toNat ++ ([x] : List Int).take 1 ++ (s.take ((i + 1).toNat) ++ (s.drop i.toNat).take (s.length - i.toNat) ++ s.drop ((i + 1).toNat + (s.length - i.toNat))).drop (i.toNat + 1)) = (Nx s i.toNat x) := by (first | exact gU z8 | (simp only [hi1]; exact bM hiN rfl (List.take_left' (by rw [List.length_take]; omega)) z92) | (simp only [hi1]; exact Wy z8 rfl))
 have hlen0 : (s.length + 1) = (Nx s i.toNat x).length := by first | (rw [← hcan0]; done) | (rw [← hcan0]; first | rfl | (simp; done) | (simp only [List.length_append, List.length_take, List.length_drop, List.length_set, List.length_replicate, List.length_cons, List.length_nil, List.length_map, Cq, Ce]; omega) | (simp; omega))
 exact ⟨s_a, s_c, Bx8, qK, ((hw1.perm (List.Perm.refl _)).tr_out.sub (by first | exact List.sublist_append_left _ _ | exact List.nil_sublist _)), (hcan0 ▸ hox8)⟩

end Go.Proofs.YtdnjanhdnibkfaaGreatDoor.Jd

namespace Go.Proofs.YtdnjanhdnibkfaaGreatDoor.Jd
open Go.Proofs.Tryz
set_option linter.unusedVariables false
set_option linter.unusedSimpArgs false
theorem lG {α : Type} [Inhabited α] {xs : List α} {i k : Nat} {v : α} (hi : i < xs.length) : (xs.set i v).getD k default = if k = i then v else xs.getD k default := by
  rw [List.getD_eq_getElem?_getD, List.getD_eq_getElem?_getD, List.getElem?_set]
  by_cases h : i = k
  · subst h; simp [hi]
  · rw [if_neg h, if_neg (fun e => h e.symm)]
theorem U5 (l : List Ib) (t : Bp) (a : Int) (b : List Int) : ∀ (n j : Nat) (ys : List Int), j < n → j < ys.length → (∀ k, k < ys.length → k ≠ j → ys.getD j default < ys.getD k default) →
    (Fy l t a b n (j : Int) ys).2.getD 0 default = ys.getD j default ∧ (Fy l t a b n (j : Int) ys).2.length = ys.length ∧ ∀ z ∈ (Fy l t a b n (j : Int) ys).2, z ∈ ys
  | 0, j, ys, h, _, _ => by omega
  | n + 1, j, ys, h, hj, hl => by
    unfold Fy
    by_cases h0 : j = 0
    · subst h0
      rw [if_pos Hs]
      exact ⟨rfl, rfl, fun z hz => hz⟩
    · have hi : ((j : Int) - 1).toNat / 2 = (j - 1) / 2 := by omega
      rw [if_neg (by rw [hi]; omega)]
      have hij : (j - 1) / 2 < j := by omega
      have hlt := hl ((j - 1) / 2) z8 z8
      have e1 : ((j : Int)).toNat = j := by omega
      have e2 : ((((j - 1) / 2 : Nat) : Int)).toNat = (j - 1) / 2 := by omega
      rw [hi, e1, if_neg (by simp only [Decidable.not_not]; exact hlt), e2]
      have hlen : ((ys.set ((j - 1) / 2) (ys.getD j default)).set j (ys.getD ((j - 1) / 2) default)).length = ys.length := by simp
      have hg : ∀ k, ((ys.set ((j - 1) / 2) (ys.getD j default)).set j (ys.getD ((j - 1) / 2) default)).getD k default = if k = j then ys.getD ((j - 1) / 2) default else if k = (j - 1) / 2 then ys.getD j default else ys.getD k default := fun k => by
        rw [lG (by simpa using hj), lG z8]
      obtain ⟨r1, r2, r3⟩ := U5 l t a b n ((j - 1) / 2) ((ys.set ((j - 1) / 2) (ys.getD j default)).set j (ys.getD ((j - 1) / 2) default)) z8 (by rw [hlen]; omega) (fun k hk hkj => by
        rw [hlen] at hk
        rw [hg, hg, if_neg z8, if_pos rfl]
        by_cases h1 : k = j
        · rw [if_pos h1]; exact hlt
        · rw [if_neg h1, if_neg hkj]; exact hl k hk h1)
      rw [hg, if_neg z8, if_pos rfl] at r1
      refine ⟨r1, by rw [r2, hlen], fun z hz => ?_⟩
      have hm : ∀ k, k < ys.length → ys.getD k default ∈ ys := fun k hk => by
        rw [List.getD_eq_getElem?_getD, List.getElem?_eq_getElem hk]; exact List.getElem_mem hk
      rcases List.mem_or_eq_of_mem_set (r3 z hz) with hz | rfl
      · rcases List.mem_or_eq_of_mem_set hz with hz | rfl
        · exact hz
        · exact hm _ hj
      · exact hm _ z8
def Kr (l : List Ib) (t : Bp) : Option Nat := l.findIdx? fun r => Fl r t
def AP7 (l : List Ib) (t : Bp) (i : Nat) (xs : List Int) : Prop :=
  (xs = [] ∧ ∀ k, i ≤ k → k < l.length → Fl (l.getD k default) t = false) ∨
  ∃ k : Nat, xs ≠ [] ∧ xs.getD 0 default = (k : Int) ∧ i ≤ k ∧ k < l.length ∧ Fl (l.getD k default) t = true ∧ (∀ j, i ≤ j → j < k → Fl (l.getD j default) t = false) ∧ ∀ z ∈ xs, (i : Int) ≤ z
theorem hO (l : List Ib) (t : Bp) : ∀ (n i : Nat) (xs : List Int), i < n → i ≤ l.length → AP7 l t i xs → AP7 l t 0 (Fz l t n ((i : Int) - 1) xs).2
  | 0, i, xs, h, _, _ => by omega
  | n + 1, i, xs, h, hi, ht => by
    unfold Fz
    cases i with
    | zero => rw [if_neg z8]; exact ht
    | succ i =>
      have e1 : (((i + 1 : Nat) : Int) - 1) = (i : Int) := by omega
      rw [e1, if_pos z8]
      have e2 : ((i : Int)).toNat = i := by omega
      rw [e2]
      by_cases hf : Fl (l.getD i default) t = true
      · rw [if_pos hf]
        have hlen : (xs ++ [(i : Int)]).length = xs.length + 1 := by simp
        have hgl : (xs ++ [(i : Int)]).getD xs.length default = (i : Int) := by simp [List.getD_eq_getElem?_getD]
        have hall : ∀ z ∈ xs, (i : Int) < z := fun z hz => by
          rcases ht with ⟨rfl, _⟩ | ⟨k, _, _, _, _, _, _, h7⟩
          · cases hz
          · have := h7 z hz; omega
        have hup := U5 l t (i : Int) xs (((((xs ++ [(i : Int)]).length : Nat) : Int) - 1).toNat + 1) xs.length (xs ++ [(i : Int)]) (by rw [hlen]; omega) (by rw [hlen]; omega) (fun k hk hkj => by
          rw [hgl]
          have hk' : k < xs.length := by rw [hlen] at hk; omega
          rw [List.getD_eq_getElem?_getD, List.getElem?_append_left hk', List.getElem?_eq_getElem hk']
          exact hall _ (List.getElem_mem hk'))
        have e3 : (((xs ++ [(i : Int)]).length : Nat) : Int) - 1 = (xs.length : Int) := by rw [hlen]; omega
        rw [e3] at hup
        rw [e3]
        obtain ⟨r1, r2, r3⟩ := hup
        rw [hgl] at r1
        unfold Iw
        refine hO l t n i _ z8 z8 (.inr ⟨i, ?_, r1, Nat.le_refl _, by omega, hf, fun j h1 h2 => by omega, fun z hz => ?_⟩)
        · intro e; rw [e] at r2; rw [hlen] at r2; simp at r2
        · have := r3 z hz
          rcases List.mem_append.1 this with h1 | h1
          · have := hall z h1; omega
          · rw [List.mem_singleton] at h1; omega
      · rw [if_neg hf]
        have hf' : Fl (l.getD i default) t = false := by cases hh : Fl (l.getD i default) t <;> simp_all
        refine hO l t n i _ z8 z8 ?_
        rcases ht with ⟨rfl, h2⟩ | ⟨k, h0, h1, h2, h3, h4, h5, h6⟩
        · refine .inl ⟨rfl, fun k h1 h3 => ?_⟩
          by_cases e : k = i
          · subst e; exact hf'
          · exact h2 k z8 h3
        · refine .inr ⟨k, h0, h1, by omega, h3, h4, fun j h7 h8 => ?_, fun z hz => ?_⟩
          · by_cases e : j = i
            · subst e; exact hf'
            · exact h5 j z8 h8
          · have := h6 z hz; omega
theorem dF {l : List Ib} {t : Bp} {k : Nat} (h1 : k < l.length) (h2 : Fl (l.getD k default) t = true) (h3 : ∀ j, j < k → Fl (l.getD j default) t = false) : Kr l t = some k := by
  unfold Kr
  rw [List.findIdx?_eq_some_iff_getElem]
  refine ⟨h1, ?_, fun j hj => ?_⟩
  · rw [List.getD_eq_getElem?_getD, List.getElem?_eq_getElem h1] at h2; exact h2
  · have := h3 j hj
    rw [List.getD_eq_getElem?_getD, List.getElem?_eq_getElem z8] at this
    simpa using this
theorem dG {l : List Ib} {t : Bp} (h : ∀ j, j < l.length → Fl (l.getD j default) t = false) : Kr l t = none := by
  unfold Kr
  rw [List.findIdx?_eq_none_iff]
  intro x hx
  obtain ⟨j, hj, rfl⟩ := List.getElem_of_mem hx
  have := h j hj
  rw [List.getD_eq_getElem?_getD, List.getElem?_eq_getElem hj] at this
  exact this
theorem lH {l : List Ib} {t : Bp} {k : Nat} (h : Kr l t = some k) : k < l.length ∧ Fl (l.getD k default) t = true ∧ ∀ j, j < k → Fl (l.getD j default) t = false := by
  unfold Kr at h
  rw [List.findIdx?_eq_some_iff_getElem] at h
  obtain ⟨h1, h2, h3⟩ := h
  refine ⟨h1, ?_, fun j hj => ?_⟩
  · rw [List.getD_eq_getElem?_getD, List.getElem?_eq_getElem h1]; exact h2
  · have := h3 j hj
    rw [List.getD_eq_getElem?_getD, List.getElem?_eq_getElem z8]
    simpa using this
def tQ (l : List Ib) (t : Bp) : Bool × Int × Int := match Kr l t with
  | none => (false, -1, 0)
  | some k => ((l.getD k default).allow, (k : Int), 0)
theorem hP (l : List Ib) (t : Bp) : Ey l t = if Hv l = false then (false, 0, 81) else if (Rl t).2 ≠ 0 then (false, 0, 71) else tQ l t := by
  unfold Ey
  by_cases h1 : Hv l = false
  · rw [if_pos h1, if_pos (by rw [h1]; rfl)]
  · have h1' : Hv l = true := by cases h : Hv l <;> simp_all
    rw [if_neg h1, if_neg (by rw [h1']; simp)]
    by_cases h2 : (Rl t).2 ≠ 0
    · rw [if_pos h2, if_pos h2]
    · rw [if_neg h2, if_neg h2]
      have hd := hO l t ((((l.length : Nat) : Int) - 1 + 1).toNat + 1) l.length [] z8 (Nat.le_refl _) (.inl ⟨rfl, fun k h3 h4 => by omega⟩)
      unfold Iw tQ
      generalize (Fz l t ((((l.length : Nat) : Int) - 1 + 1).toNat + 1) (((l.length : Nat) : Int) - 1) []) = q at hd ⊢
      rcases hd with ⟨h3, h4⟩ | ⟨k, h3, h4, _, h5, h6, h7, _⟩
      · rw [h3, dG (fun j hj => h4 j (Nat.zero_le _) hj)]; simp
      · dsimp only
        rw [if_neg (by intro e; exact h3 (List.length_eq_zero_iff.1 z8)), h4, dF h5 h6 (fun j hj => h7 j (Nat.zero_le _) hj)]
        simp
theorem Q2 (l : List Ib) (t : Bp) : -1 ≤ (tQ l t).2.1 ∧ (tQ l t).2.1 ≤ (l.length : Int) ∧ (tQ l t).2.2 = 0 := by
  unfold tQ
  cases h : Kr l t with
  | none => show -1 ≤ (-1 : Int) ∧ (-1 : Int) ≤ (l.length : Int) ∧ (0 : Int) = 0; omega
  | some k => have := (lH h).1; show -1 ≤ (k : Int) ∧ (k : Int) ≤ (l.length : Int) ∧ (0 : Int) = 0; omega
theorem Vu (l : List Ib) (t : Bp) : -1 ≤ (Ey l t).2.1 ∧ (Ey l t).2.1 ≤ (l.length : Int) := by
  rw [hP]
  split
  · simp
  · split
    · simp
    · have := Q2 l t; exact ⟨this.1, this.2.1⟩
end Go.Proofs.YtdnjanhdnibkfaaGreatDoor.Jd

