/- Part of the proofs of this seat: walks and plain facts. No condition. -/
import Derived.Test.YtopjaeoklkpcpaaGreatDoorQ0
import Derived.Test.YtopjaeoklkpcpaaGreatDoorProg
import Derived.Test.YtopjaeoklkpcpaaGreatDoorChecked
import Derived.WalkKit
import Derived.LaidEql
import Derived.Stop.Asserts
import Derived.RowKitTokens
import Derived.Test.YtopjaeoklkpcpaaGreatDoorQ3
import Derived.Test.YtopjaeoklkpcpaaGreatDoorQ1
import Derived.Test.YtopjaeoklkpcpaaGreatDoorQ2
namespace Go.Proofs.YtopjaeoklkpcpaaGreatDoor.Jd
open Go.Proofs.Tryz
open Go.Proofs
open Go.RowKit (Below)
set_option maxRecDepth 100000
set_option maxHeartbeats 8000000
set_option linter.unusedVariables false
set_option linter.unusedSimpArgs false
theorem AS5 : Hq Tryz.prog 28 [(0, 3), (3, 1), (4, 1)] := ⟨_, fun w => runUnderlying28 w, fun w => by simp⟩
theorem AS6 : Hq Tryz.prog 52 [(0, 2), (2, 1), (3, 1), (4, 1), (5, 1), (6, 1), (7, 1)] := ⟨_, fun w => runUnderlying52 w, fun w => by simp⟩
theorem AS7 : Ty Tryz.prog 9 1 16 (vt ([] : Ap)) := ⟨⟨Tryz.t9, by kernel_rfl, rfl, rfl, rfl⟩, rfl⟩
theorem Gd : Ty Tryz.prog 52 8 104 (Value.agg [(vi 0), (vi 0), (vt ([] : Ap)), (vi 0), (vi 0), (vs none 0 0), (vs none 0 0), (vi 0)].toArray) := ⟨⟨Tryz.t52, by kernel_rfl, rfl, rfl, rfl⟩, rfl⟩
theorem nL (w : World) {t_1_rules_a : Option Addr} {t_1_rules_c : Nat} {t_1_creds_a : Option Addr} {t_1_creds_c : Nat} {t : (Aa × Int)} (h_t_1_rules : Sl w Et 5 t_1_rules_a t.1.rules) (n_t_1_rules : t.1.rules.length ≤ 1000) (h_t_1_creds : Sl w Fq 4 t_1_creds_a t.1.creds) (n_t_1_creds : t.1.creds.length ≤ 1000) : Calls Tryz.prog 47 (List.toArray [(Value.agg [(vi t.1.handle.slot), (vi t.1.handle.gen), (vt t.1.name), (vi t.1.state), (vi t.1.version), (vs t_1_rules_a t.1.rules.length t_1_rules_c), (vs t_1_creds_a t.1.creds.length t_1_creds_c), (vi t.1.deadline), (vi t.2)].toArray)]) w fun e w2 => ∃ a1 : Option Addr, ∃ c1 : Nat, ∃ a2 : Option Addr, ∃ c2 : Nat, ∃ B1 : Aj, ∃ B2 : Aj, e = .returned (Value.agg [(vi t.1.handle.slot), (vi t.1.handle.gen), (vt t.1.name), (vi t.1.state), (vi t.1.version), (vs a1 t.1.rules.length c1), (vs a2 t.1.creds.length c2), (vi t.1.deadline)].toArray) ∧ Dh w w2 (B1 ++ B2) ∧ Bi Et 5 34 a1 c1 B1 t.1.rules ∧ Bi Fq 4 62 a2 c2 B2 t.1.creds := by
 have hF := Is.refl t.1
 refine enter func47 ntmps47 (h := ?_)
 refine Z2 ?_
 refine Ah Ag z75 (k := fun r1 hr1 => ?_)
 refine Ah Ag Ur (k := fun r2 hr2 => ?_)
 refine Me ?_
 refine Fi Da 10 [(true, 0), (true, 1), (true, 2), (true, 4), (true, 5), (true, 6), (false, 3), (true, 8), (true, 9), (false, 7)] z4 ?_
 refine Aw (Ai Kx) (k := ?_)
 refine Aw (Ai Oo) (k := ?_)
 refine Aw (Bv isAgg49) (k := ?_)
 refine Aw (Ai Kx) (k := ?_)
 refine Aw (Ai Qw) (k := ?_)
 refine Aw (Bv isAgg50) (k := ?_)
 refine dL (Ad call82) (fun w1 hw1 => Wp w1 (s := t.1.rules) (h_s := (Bp.of_base h_t_1_rules) w1 hw1) (n_s := z6)) (k := ?_)
 rintro w1_1 e1_1 w2_1 hw1_1 ⟨a1_1, c1_1, B1_1, he_1, hf_1, ho1_1⟩
 refine ⟨_, _, _, he_1, hf_1, rfl, ?_⟩
 refine Aw (Ai Kx) (k := ?_)
 refine Aw (Ai Oo) (k := ?_)
 refine dL (Ad call83) (fun w1 hw1 => pY w1 (s := t.1.creds) (h_s := (Bp.of_base h_t_1_creds) w1 hw1) (n_s := z6)) (k := ?_)
 rintro w1_2 e1_2 w2_2 hw1_2 ⟨a1_2, c1_2, B1_2, he_2, hf_2, ho1_2⟩
 refine ⟨_, _, _, he_2, hf_2, rfl, ?_⟩
 refine Gb ?_
 refine Gw (Bt (l' := [_, _, _, _, _, _, _, _, _]) sizeOf49) (k := ?_)
 refine gB ?_
 refine Af (Ai Qw) (k := ?_)
 refine Gw (Bt (l' := [_, _, _, _, _, _, _, _, _]) sizeOf50) (k := ?_)
 refine Uw ?_
 refine gB ?_
 refine uD ?_
 refine cY ?_
 refine rO ?_
 refine Ab results47 (Fb.agg isAgg52 sizeOf52 rfl me rfl Fb.nil) (fun w1 hw1 => ?_)
 exact ⟨a1_1, c1_1, a1_2, c1_2, B1_1, B1_2, (rq hF), (Ba (L := (B1_1 ++ B1_2)) (hw1.perm (q0.trans (qd q0))) (nA rfl).symm), (by rw [hF.eq]; exact ho1_1), (by rw [hF.eq]; exact ho1_2)⟩

theorem W3 (w : World) {r_Sg_a : Option Addr} {r_Sg_c : Nat} {r_Su_a : Option Addr} {r_Su_c : Nat} {r_Sf_a : Option Addr} {r_Sf_c : Nat} {r_l_a : Option Addr} {r_l_c : Nat} {r_l_t : List TA} {r : Ac} (h_r_Sg : Sl w eI 1 r_Sg_a r.slots.gens) (n_r_Sg : r.slots.gens.length ≤ 1000) (h_r_Su : Sl w eB 1 r_Su_a r.slots.used) (n_r_Su : r.slots.used.length ≤ 1000) (h_r_Sf : Sl w eI 1 r_Sf_a r.slots.free) (n_r_Sf : r.slots.free.length ≤ 1000) (h_r_l : Rm w Bu 8 DT r_l_a r.l r_l_t) (n_r_l : r.l.length ≤ 1000) (k_r_l : r.l.length ≤ r_l_c) (hsm : Bk r.l) : Calls Tryz.prog 39 (List.toArray [(Value.agg [(vs r_Sg_a r.slots.gens.length r_Sg_c), (vs r_Su_a r.slots.used.length r_Su_c), (vs r_Sf_a r.slots.free.length r_Sf_c), (vs r_l_a r.l.length r_l_c), (vi r.seq)].toArray)]) w fun e w2 => ∃ a1 : Option Addr, ∃ c1 : Nat, ∃ a2 : Option Addr, ∃ c2 : Nat, ∃ a3 : Option Addr, ∃ c3 : Nat, ∃ a4 : Option Addr, ∃ c4 : Nat, ∃ t4 : List TA, ∃ B : Aj, e = .returned (Value.agg [(vs a1 ((Ta r).slots.gens.length) c1), (vs a2 ((Ta r).slots.used.length) c2), (vs a3 ((Ta r).slots.free.length) c3), (vs a4 ((Ta r).l.length) c4), (vi ((Ta r).seq))].toArray) ∧ Dh w w2 B ∧ Dw B eI 1 a1 (Ta r).slots.gens ∧ Dw B eB 1 a2 (Ta r).slots.used ∧ Dw B eI 1 a3 (Ta r).slots.free ∧ (Cx B Bu 8 DT a4 (Ta r).l t4 ∧ (Ta r).l.length ≤ c4) ∧ (Ta r).slots.gens.length ≤ 1000 ∧ (Ta r).slots.used.length ≤ 1000 ∧ (Ta r).slots.free.length ≤ 1000 ∧ (Ta r).l.length ≤ 1000 := by
 have hF := Is.refl (Ta r)
 refine Wf func39 ntmps39 (h := ?_)
 refine Z2 ?_
 refine Ah Ag Vf (k := fun r1 hr1 => ?_)
 refine Ah Ag Wy (k := fun r2 hr2 => ?_)
 refine Uw ?_
 refine Ah Ag (Dn (l := [_]) zeroValue26) (k := fun r3 hr3 => ?_)
 refine Me ?_
 refine xW ?_
 refine Z2 ?_
 refine Ah Ag Vf (k := fun r4 hr4 => ?_)
 refine fW ?_
 refine yE ?_
 refine Ij Ag rfl call85 func85 ntmps85 (fun l5 rD5 rr5 hl5 => ?_)
 refine oW ?_
 refine cO ?_
 refine Lq ?_
 refine bV (σ1 := Nat) (σ2 := Nat) (σ3 := List Aa) (σ4 := List TA) (σ5 := Option Addr) (σ6 := Nat) (σ7 := Aj) (σ8 := Aj) (fun n_3 x_1 x_2 x_2t x_2a x_2c x_2B x_2R => (x_2B ++ (x_2R ++ ((l5, Df rr5 .ready none) :: ((rD5, Obj.deferred (some [])) :: ((r4, oc [(vs r_Sg_a r.slots.gens.length r_Sg_c), (vs r_Su_a r.slots.used.length r_Su_c), (vs r_Sf_a r.slots.free.length r_Sf_c), (vs r_l_a r.l.length r_l_c), (vi r.seq)] 28) :: ((r3, oc [(vs x_2a x_2.length x_2c)] 26) :: ((r2, oc [(vs none 0 0), (vs none 0 0), (vs none 0 0), (vs none 0 0), (vi 0)] 28) :: ((r1, oc [(vs r_Sg_a r.slots.gens.length r_Sg_c), (vs r_Su_a r.slots.used.length r_Su_c), (vs r_Sf_a r.slots.free.length r_Sf_c), (vs r_l_a r.l.length r_l_c), (vi r.seq)] 28) :: []))))))))) (fun n_3 x_1 x_2 x_2t x_2a x_2c x_2B x_2R => [(0, (Value.func (.yield l5) [].toArray [].toArray)), (1, (Value.pointer (some ⟨r4, 0, none⟩))), (6, (vs r_l_a r.l.length r_l_c)), (7, (vi ((r.l.length : Nat) : Int))), (8, (vi ((x_1 : Nat) : Int)))]) (fun n_3 x_1 x_2 x_2t x_2a x_2c x_2B x_2R => r.l.length - x_1 < n_3 ∧ Is (Qx r (r.l.length + 1) 0 []) (Qx r n_3 x_1 x_2) ∧ (Bi Bu 8 52 x_2a x_2c x_2B (List.zip x_2 x_2t) ∧ Bs x_2R DT x_2 x_2t) ∧ x_2.length ≤ x_1 ∧ x_1 ≤ r.l.length) (fun n_3 x_1 x_2 x_2t x_2a x_2c x_2B x_2R => n_3) (r.l.length + 1) 0 ([]) ([]) none 0 ([]) ([]) ?_ se oH ?_
 ·exact ⟨Nat.lt_succ_self _, Is.refl _, ⟨Bi.nil, Bs.nil⟩, Kh, Kh⟩
 ·rintro (_ | n_3) x_1 x_2 x_2t x_2a x_2c x_2B x_2R ⟨hm5, hF4, ⟨hx_2, hdx_2⟩, hi6, hi7⟩
  ·omega
  refine Zd ?_
  refine Au rfl (fun hq1 => ?_) (fun hq1 => ?_)
  rotate_left
  ·refine Ca ?_
   refine Pl ?_
   refine Kb (.inr rfl) results85 (qc (qc q0)) ?_
   refine fY ?_
   refine fL ?_
   refine Ah Ag jB (k := fun r9 hr9 => ?_)
   refine lZ ?_
   refine Me ?_
   refine Fi Da 14 [(true, 0), (true, 1), (true, 3), (true, 4), (true, 6), (true, 7), (true, 10), (true, 11), (true, 12), (false, 2), (false, 5), (false, 8), (true, 9), (true, 13)] z4 ?_
   refine J9 ?_
   refine lM ?_
   refine jE ?_
   refine Aw (Bv isAgg26) (k := ?_)
   refine O3 ?_
   refine dL (Ad call71) (fun w1 hw1 => Wo w1 (s := r.slots.gens) (h_s := (Bp.of_base h_r_Sg) w1 hw1) (n_s := by first | omega | (simp; done) | exact (hsm _ z2).1 | exact (hsm _ z2).2)) (k := ?_)
   rintro w1_5 e1_5 w2_5 hw1_5 ⟨a1_5, c1_5, B1_5, he_5, hf_5, ho1_5⟩
   refine ⟨_, _, _, he_5, hf_5, rfl, ?_⟩
   refine dL (Ad call72) (fun w1 hw1 => eK w1 (s := r.slots.used) (h_s := (Bp.of_base h_r_Su) w1 hw1) (n_s := by first | omega | (simp; done) | exact (hsm _ z2).1 | exact (hsm _ z2).2)) (k := ?_)
   rintro w1_6 e1_6 w2_6 hw1_6 ⟨a1_6, c1_6, B1_6, he_6, hf_6, ho1_6⟩
   refine ⟨_, _, _, he_6, hf_6, rfl, ?_⟩
   refine dL (Ad call71) (fun w1 hw1 => Wo w1 (s := r.slots.free) (h_s := (Bp.of_base h_r_Sf) w1 hw1) (n_s := by first | omega | (simp; done) | exact (hsm _ z2).1 | exact (hsm _ z2).2)) (k := ?_)
   rintro w1_7 e1_7 w2_7 hw1_7 ⟨a1_7, c1_7, B1_7, he_7, hf_7, ho1_7⟩
   refine ⟨_, _, _, he_7, hf_7, rfl, ?_⟩
   refine Aw z55 (k := ?_)
   refine Aw z62 (k := ?_)
   refine Gb ?_
   refine Z88 ?_
   refine Du [rD5] (qc (qc (qc (qa (qa (qc (qc q0))))))) results39 rK (fun w1 hw1 => ?_)
   exact ⟨a1_5, c1_5, a1_6, c1_6, a1_7, c1_7, x_2a, x_2c, x_2t, (B1_5 ++ (B1_6 ++ (B1_7 ++ (x_2B ++ x_2R)))), (rq (hF.rn2 (hF4.neg hq1))), (Ba (L := (B1_5 ++ (B1_6 ++ (B1_7 ++ (x_2B ++ x_2R))))) (hw1.perm (((((qd (qd (qd (qb (qb (qd q0)))))).trans (qd (qd (qd (qd (qb (qb q0))))))).trans (qd (qd q0))).trans (qd (qd (qd q0)))).trans (qd (qd (qd (qd q0)))))) (nA (nA (nA (nA rfl)))).symm), (by rw [(hF.rn2 (hF4.neg hq1)).eq]; exact (ho1_5.slb Bh)), (by rw [(hF.rn2 (hF4.neg hq1)).eq]; exact (ho1_6.slb Gh)), (by rw [(hF.rn2 (hF4.neg hq1)).eq]; exact (ho1_7.slb Bh)), (by rw [(hF.rn2 (hF4.neg hq1)).eq]; exact ⟨((Bi.nb (U := (x_2B ++ x_2R)) Av hx_2 hdx_2 (hB := sh) (hR := sh)).mono sh), (by have h0 := hx_2.le'; rwa [Br hdx_2.1] at h0)⟩), (rl (hF.rn2 (hF4.neg hq1))), (rl (hF.rn2 (hF4.neg hq1))), (rl (hF.rn2 (hF4.neg hq1))), (rl (hF.rn2 (hF4.neg hq1)))⟩
  refine fJ ?_
  refine L7 ?_
  have hcp2 := (h_r_l.2.2 x_1 z3).2.2.1
  have hcp3 := (h_r_l.2.2 x_1 z3).2.2.2
  refine Q3 ?_
  refine Ah Ag Ur (k := fun r6 hr6 => ?_)
  refine tU ?_
  refine Pk ?_
  refine yB ?_
  refine dO (vs := [(vi ((x_1 : Nat) : Int)), (Value.agg [(vi ((r.l.getD x_1 default).handle.slot)), (vi ((r.l.getD x_1 default).handle.gen)), (vt ((r.l.getD x_1 default).name)), (vi ((r.l.getD x_1 default).state)), (vi ((r.l.getD x_1 default).version)), (vs ((r_l_t.getD x_1 default).ra) ((r.l.getD x_1 default).rules.length) ((r_l_t.getD x_1 default).rc)), (vs ((r_l_t.getD x_1 default).ca) ((r.l.getD x_1 default).creds.length) ((r_l_t.getD x_1 default).cc)), (vi ((r.l.getD x_1 default).deadline)), (vi r.seq)].toArray)]) hl5 (qa (qc (qc q0))) Eo ?_
  refine Cs ?_
  refine Ah Ag z56 (k := fun r7 hr7 => ?_)
  refine xU ?_
  refine Z95 ?_
  refine Gv _ _ (vp (qb (qb (qb q0))) (nA nE)) Da 5 [(true, 0), (true, 1), (false, 2), (false, 3), (false, 4)] z4 ?_
  refine Aw (Bv isAgg26) (k := ?_)
  refine Aw z72 (k := ?_)
  refine dL (Ad call47) (fun w1 hw1 => nL w1 (t := ((r.l.getD x_1 default), r.seq)) (h_t_1_rules := (fun w hw => ((Ds.of_base Dc h_r_l).at (m := x_1) z3 w hw).1) w1 hw1) (n_t_1_rules := by first | omega | (simp; done) | exact (hsm _ z2).1 | exact (hsm _ z2).2) (h_t_1_creds := (fun w hw => ((Ds.of_base Dc h_r_l).at (m := x_1) z3 w hw).2.1) w1 hw1) (n_t_1_creds := by first | omega | (simp; done) | exact (hsm _ z2).1 | exact (hsm _ z2).2)) (k := ?_)
  rintro w1_4 e1_4 w2_4 hw1_4 ⟨a1_4, c1_4, a2_4, c2_4, B1_4, B2_4, he_4, hf_4, ho1_4, ho2_4⟩
  refine ⟨_, _, _, he_4, hf_4, (nA rfl).symm, ?_⟩
  refine Se Ag J5 (k := fun r8 hr8 => ?_)
  refine Tu (List.zip (x_2 ++ ([(((r.l.getD x_1 default), r.seq).1)] : List Aa)) (x_2t ++ ([⟨a1_4, c1_4, a2_4, c2_4⟩] : List TA))) (List.zip_append hdx_2.1.symm).symm Gd underlying26 Av hx_2 q0 (Bi.nj Av (Bi.mk (xs := List.zip ([(((r.l.getD x_1 default), r.seq).1)] : List Aa) ([⟨a1_4, c1_4, a2_4, c2_4⟩] : List TA)) rfl rfl Av) (Bs.one (B := (B1_4 ++ (B2_4 ++ []))) (D := DT) (fun w hw => ⟨(ho1_4.sl Ck (Em hw)), (ho2_4.sl Ed (Em hw)), ho1_4.le', ho2_4.le'⟩)) (hB := sh) (hR := sh)).sl ⟨by first | exact lb, by first | exact lb⟩ (n := x_2.length) (m := 1) (hn := (Br hdx_2.1)) (hm := (Br (Bs.one (B := (B1_4 ++ (B2_4 ++ []))) (D := DT) (fun w hw => ⟨(ho1_4.sl Ck (Em hw)), (ho2_4.sl Ed (Em hw)), ho1_4.le', ho2_4.le'⟩)).1)) (k := fun ax2 cx2 Bx2 hox2 => ?_)
  have hzl2 : (List.zip (x_2 ++ ([(((r.l.getD x_1 default), r.seq).1)] : List Aa)) (x_2t ++ ([⟨a1_4, c1_4, a2_4, c2_4⟩] : List TA))).length = (x_2 ++ ([(((r.l.getD x_1 default), r.seq).1)] : List Aa)).length := Br (by rw [List.length_append, List.length_append, hdx_2.1, (Bs.one (B := (B1_4 ++ (B2_4 ++ []))) (D := DT) (fun w hw => ⟨(ho1_4.sl Ck (Em hw)), (ho2_4.sl Ed (Em hw)), ho1_4.le', ho2_4.le'⟩)).1])
  rw [hzl2]
  have hal2 : (x_2 ++ ([(((r.l.getD x_1 default), r.seq).1)] : List Aa)).length = x_2.length + 1 := List.length_append
  have hdp4 : Bs (x_2R ++ (B1_4 ++ (B2_4 ++ []))) DT (x_2 ++ ([(((r.l.getD x_1 default), r.seq).1)] : List Aa)) (x_2t ++ ([⟨a1_4, c1_4, a2_4, c2_4⟩] : List TA)) := Bs.append (hdx_2.mono sh) ((Bs.one (B := (B1_4 ++ (B2_4 ++ []))) (D := DT) (fun w hw => ⟨(ho1_4.sl Ck (Em hw)), (ho2_4.sl Ed (Em hw)), ho1_4.le', ho2_4.le'⟩)).mono sh)
  refine bC ?_
  refine Gw (Bt (l' := [_]) sizeOf26) (k := ?_)
  refine oX ?_
  refine Fv (qc (qa (qc (qc q0)))) ?_
  refine Rj ?_
  refine Xk ?_
  refine Ci _ ((((((((((qa (qc (qa (qc (qc (qa (qa (qc (qa (qa (qa (qa q0)))))))))))).trans (qa (qa (qc (qa (qc (qc (qa (qa (qc (qa (qa (qa q0))))))))))))).trans (qa (qa (qa (qc (qa (qc (qc (qa (qa (qc (qa (qa q0))))))))))))).trans (qa (qa (qa (qa (qc (qa (qc (qc (qa (qa (qc (qa q0))))))))))))).trans (qa (qa (qa (qa (qa (qc (qa (qc (qc (qa (qa (qc q0))))))))))))).trans (qa (qa (qa (qa (qa q0)))))).trans (qb (qb (qb (qb (qb (qb (qd (qb (qd q0)))))))))).trans (qd (qb (qb (qb (qb (qb (qb (qd (qb q0)))))))))).trans (qd (qd (qb (qb (qb (qb (qb (qb (qd (qb (qb (qb q0))))))))))))).trans (qd (qd (qd (qb (qb (qb (qb (qb (qb q0)))))))))) ?_
  refine Cj _ (List.Sublist.append Ou (List.Sublist.append Ou (List.Sublist.append Ou (List.Sublist.append Ou (List.Sublist.cons_cons _ (List.Sublist.cons_cons _ (List.Sublist.cons_cons _ (List.Sublist.cons_cons _ oJ)))))))) ?_
  exact Ip n_3 (x_1 + 1) (x_2 ++ ([(((r.l.getD x_1 default), r.seq).1)] : List Aa)) (x_2t ++ ([⟨a1_4, c1_4, a2_4, c2_4⟩] : List TA)) ax2 cx2 Bx2 (x_2R ++ (B1_4 ++ B2_4)) ⟨by omega, (hF4.pos hq1), ⟨hox2, (hdp4.mono sh)⟩, z2, z2⟩ (Nat.lt_succ_self _) se oH

theorem G0 (w : World) {r_Sg_a : Option Addr} {r_Sg_c : Nat} {r_Su_a : Option Addr} {r_Su_c : Nat} {r_Sf_a : Option Addr} {r_Sf_c : Nat} {r_l_a : Option Addr} {r_l_c : Nat} {r_l_t : List TA} {r : Ac} (h_r_Sg : Sl w eI 1 r_Sg_a r.slots.gens) (n_r_Sg : r.slots.gens.length ≤ 1000) (h_r_Su : Sl w eB 1 r_Su_a r.slots.used) (n_r_Su : r.slots.used.length ≤ 1000) (h_r_Sf : Sl w eI 1 r_Sf_a r.slots.free) (n_r_Sf : r.slots.free.length ≤ 1000) (h_r_l : Rm w Bu 8 DT r_l_a r.l r_l_t) (n_r_l : r.l.length ≤ 1000) (k_r_l : r.l.length ≤ r_l_c) (hsm : Bk r.l) : Calls Tryz.prog 39 (List.toArray [(Value.agg [(vs r_Sg_a r.slots.gens.length r_Sg_c), (vs r_Su_a r.slots.used.length r_Su_c), (vs r_Sf_a r.slots.free.length r_Sf_c), (vs r_l_a r.l.length r_l_c), (vi r.seq)].toArray)]) w fun e w2 => ∃ a1 : Option Addr, ∃ c1 : Nat, ∃ a2 : Option Addr, ∃ c2 : Nat, ∃ a3 : Option Addr, ∃ c3 : Nat, ∃ a4 : Option Addr, ∃ c4 : Nat, ∃ t4 : List TA, ∃ B : Aj, e = .returned (Value.agg [(vs a1 r.slots.gens.length c1), (vs a2 r.slots.used.length c2), (vs a3 r.slots.free.length c3), (vs a4 r.l.length c4), (vi r.seq)].toArray) ∧ Dh w w2 B ∧ Dw B eI 1 a1 r.slots.gens ∧ Dw B eB 1 a2 r.slots.used ∧ Dw B eI 1 a3 r.slots.free ∧ (Cx B Bu 8 DT a4 r.l t4 ∧ r.l.length ≤ c4) ∧ r.slots.gens.length ≤ 1000 ∧ r.slots.used.length ≤ 1000 ∧ r.slots.free.length ≤ 1000 ∧ r.l.length ≤ 1000 := by
 have h := W3 w (r_Sg_a := r_Sg_a) (r_Sg_c := r_Sg_c) (r_Su_a := r_Su_a) (r_Su_c := r_Su_c) (r_Sf_a := r_Sf_a) (r_Sf_c := r_Sf_c) (r_l_a := r_l_a) (r_l_c := r_l_c) (r_l_t := r_l_t) (r := r) h_r_Sg n_r_Sg h_r_Su n_r_Su h_r_Sf n_r_Sf h_r_l n_r_l k_r_l hsm
 simp only [W1] at h
 exact h

theorem nM (w : World) {r_Sg_a : Option Addr} {r_Sg_c : Nat} {r_Su_a : Option Addr} {r_Su_c : Nat} {r_Sf_a : Option Addr} {r_Sf_c : Nat} {r_l_a : Option Addr} {r_l_c : Nat} {r_l_t : List TA} {r : Ac} {name : Ap} (h_r_Sg : Sl w eI 1 r_Sg_a r.slots.gens) (n_r_Sg : r.slots.gens.length ≤ 1000) (h_r_Su : Sl w eB 1 r_Su_a r.slots.used) (n_r_Su : r.slots.used.length ≤ 1000) (h_r_Sf : Sl w eI 1 r_Sf_a r.slots.free) (n_r_Sf : r.slots.free.length ≤ 1000) (h_r_l : Rm w Bu 8 DT r_l_a r.l r_l_t) (n_r_l : r.l.length ≤ 1000) (k_r_l : r.l.length ≤ r_l_c) (hsm : Bk r.l) : Calls Tryz.prog 20 (List.toArray [(Value.agg [(vs r_Sg_a r.slots.gens.length r_Sg_c), (vs r_Su_a r.slots.used.length r_Su_c), (vs r_Sf_a r.slots.free.length r_Sf_c), (vs r_l_a r.l.length r_l_c), (vi r.seq)].toArray), (vt name)]) w fun e w2 => ∃ a1 : Option Addr, ∃ c1 : Nat, ∃ a2 : Option Addr, ∃ c2 : Nat, ∃ B1 : Aj, ∃ B2 : Aj, e = .returned (Value.tuple [(Value.agg [(vi ((Ee r name).1.handle.slot)), (vi ((Ee r name).1.handle.gen)), (vt ((Ee r name).1.name)), (vi ((Ee r name).1.state)), (vi ((Ee r name).1.version)), (vs a1 ((Ee r name).1.rules.length) c1), (vs a2 ((Ee r name).1.creds.length) c2), (vi ((Ee r name).1.deadline))].toArray), (Value.bool ((Ee r name).2))].toArray) ∧ Dh w w2 (B1 ++ B2) ∧ Bi Et 5 34 a1 c1 B1 (Ee r name).1.rules ∧ Bi Fq 4 62 a2 c2 B2 (Ee r name).1.creds ∧ (Ee r name).1.rules.length ≤ 1000 ∧ (Ee r name).1.creds.length ≤ 1000 := by
 have hF := Is.refl (Ee r name)
 refine enter func20 ntmps20 (h := ?_)
 refine Z2 ?_
 refine Ah Ag Vf (k := fun r1 hr1 => ?_)
 refine Ah Ag Ur (k := fun r2 hr2 => ?_)
 refine Z1 ?_
 refine lA ?_
 refine Cg ?_
 refine Fu (Ad call46) (fun w1 hw1 => iL w1 (r := r) (name := name) (h_r_Sg := (Bp.of_base h_r_Sg) w1 hw1) (n_r_Sg := by first | omega | (simp; done) | exact (hsm _ z2).1 | exact (hsm _ z2).2) (h_r_Su := (Bp.of_base h_r_Su) w1 hw1) (n_r_Su := by first | omega | (simp; done) | exact (hsm _ z2).1 | exact (hsm _ z2).2) (h_r_Sf := (Bp.of_base h_r_Sf) w1 hw1) (n_r_Sf := by first | omega | (simp; done) | exact (hsm _ z2).1 | exact (hsm _ z2).2) (h_r_l := (Ds.of_base Dc h_r_l).2 w1 hw1) (n_r_l := by first | omega | (simp; done) | exact (hsm _ z2).1 | exact (hsm _ z2).2) (k_r_l := k_r_l)) (k := ?_)
 refine Ry ?_
 refine Sb ?_
 refine Xc ?_
 refine Rj ?_
 refine Ct rfl (fun hq1 => ?_) (fun hq1 => ?_)
 ·refine Bg ?_
  refine Cs ?_
  refine AP7 ?_
  refine Pi ?_
  refine Ab results20 (Fb.agg isAgg52 sizeOf52 rfl me rfl z1) (fun w1 hw1 => ?_)
  exact ⟨none, 0, none, 0, [], [], (rq (hF.t hq1)), (hw1.fresh_out.sub Nr), (ro (hF.t hq1)), (ro (hF.t hq1)), (by rw [(hF.t hq1).eq]; first | omega | (simp; done) | exact (hsm _ z2).1 | exact (hsm _ z2).2 | (simp; done)), (by rw [(hF.t hq1).eq]; first | omega | (simp; done) | exact (hsm _ z2).1 | exact (hsm _ z2).2 | (simp; done))⟩
 have hfhq1 := Yp tC
 refine Js ?_
 refine Fi Da 9 [(true, 0), (true, 1), (true, 2), (true, 3), (true, 4), (true, 5), (true, 6), (true, 7), (false, 8)] z4 ?_
 refine lT ?_
 refine Aw (Cb (n := r.l.length) runUnderlying26 sizeOf52 (((Am r name).1).toNat) (Ds.of_base Dc h_r_l).sl (Cv h_r_l.1 z3) (Br h_r_l.1)) (k := ?_)
 have hcp2 := (h_r_l.2.2 (((Am r name).1).toNat) z3).2.2.1
 have hcp3 := (h_r_l.2.2 (((Am r name).1).toNat) z3).2.2.2
 refine Aw (Cn isAgg52 sizeOf52 (((Am r name).1).toNat) (Ds.of_base Dc h_r_l).sl (Cv h_r_l.1 z3)) (k := ?_)
 refine O3 ?_
 refine Aw (Ef (cs := [_, _, _, _, _, _, _, _, _]) zeroValue88 F3) (k := ?_)
 refine dL (Ad call47) (fun w1 hw1 => nL w1 (t := ((r.l.getD (((Am r name).1).toNat) default), r.seq)) (h_t_1_rules := (fun w hw => ((Ds.of_base Dc h_r_l).at (m := ((Am r name).1).toNat) z3 w hw).1) w1 hw1) (n_t_1_rules := by first | omega | (simp; done) | exact (hsm _ z2).1 | exact (hsm _ z2).2) (h_t_1_creds := (fun w hw => ((Ds.of_base Dc h_r_l).at (m := ((Am r name).1).toNat) z3 w hw).2.1) w1 hw1) (n_t_1_creds := by first | omega | (simp; done) | exact (hsm _ z2).1 | exact (hsm _ z2).2)) (k := ?_)
 rintro w1_1 e1_1 w2_1 hw1_1 ⟨a1_1, c1_1, a2_1, c2_1, B1_1, B2_1, he_1, hf_1, ho1_1, ho2_1⟩
 refine ⟨_, _, _, he_1, hf_1, (nA rfl).symm, ?_⟩
 refine Gb ?_
 refine cY ?_
 refine Z6 ?_
 refine Ab results20 (Fb.agg isAgg52 sizeOf52 rfl me rfl z1) (fun w1 hw1 => ?_)
 exact ⟨a1_1, c1_1, a2_1, c2_1, B1_1, B2_1, (rq (hF.f hq1)), (Ba (L := (B1_1 ++ B2_1)) (hw1.perm (List.Perm.refl _)) (nA rfl).symm), (by rw [(hF.f hq1).eq]; exact ho1_1), (by rw [(hF.f hq1).eq]; exact ho2_1), (by rw [(hF.f hq1).eq]; first | omega | (simp; done) | exact (hsm _ z2).1 | exact (hsm _ z2).2 | (simp; done)), (by rw [(hF.f hq1).eq]; first | omega | (simp; done) | exact (hsm _ z2).1 | exact (hsm _ z2).2 | (simp; done))⟩

theorem vP (w : World) {r_Sg_a : Option Addr} {r_Sg_c : Nat} {r_Su_a : Option Addr} {r_Su_c : Nat} {r_Sf_a : Option Addr} {r_Sf_c : Nat} {r_l_a : Option Addr} {r_l_c : Nat} {r_l_t : List TA} {r : Ac} (h_r_Sg : Sl w eI 1 r_Sg_a r.slots.gens) (n_r_Sg : r.slots.gens.length ≤ 1000) (h_r_Su : Sl w eB 1 r_Su_a r.slots.used) (n_r_Su : r.slots.used.length ≤ 1000) (h_r_Sf : Sl w eI 1 r_Sf_a r.slots.free) (n_r_Sf : r.slots.free.length ≤ 1000) (h_r_l : Rm w Bu 8 DT r_l_a r.l r_l_t) (n_r_l : r.l.length ≤ 1000) (k_r_l : r.l.length ≤ r_l_c) : Calls Tryz.prog 28 (List.toArray [(Value.agg [(vs r_Sg_a r.slots.gens.length r_Sg_c), (vs r_Su_a r.slots.used.length r_Su_c), (vs r_Sf_a r.slots.free.length r_Sf_c), (vs r_l_a r.l.length r_l_c), (vi r.seq)].toArray)]) w fun e w2 => ∃ a1 : Option Addr, ∃ c1 : Nat, ∃ B1 : Aj, e = .returned (vs a1 ((Qy r).length) c1) ∧ Dh w w2 B1 ∧ Bi eS 1 9 a1 c1 B1 (Qy r) ∧ (Qy r).length ≤ 1000 := by
 have hF := Is.refl (Qy r)
 refine Wf func28 ntmps28 (h := ?_)
 refine Z2 ?_
 refine Ah Ag Vf (k := fun r1 hr1 => ?_)
 refine Jr ?_
 refine Ah Ag (Dn (l := [_]) zeroValue66) (k := fun r2 hr2 => ?_)
 refine Me ?_
 refine xW ?_
 refine Z2 ?_
 refine Ah Ag Vf (k := fun r3 hr3 => ?_)
 refine fW ?_
 refine yE ?_
 refine Ij Ag rfl call85 func85 ntmps85 (fun l4 rD4 rr4 hl4 => ?_)
 refine oW ?_
 refine cO ?_
 refine Lq ?_
 refine Ny (σ1 := Nat) (σ2 := Nat) (σ3 := List Ap) (σ4 := Option Addr) (σ5 := Nat) (σ6 := Aj) (fun n_3 x_1 x_2 x_2a x_2c x_2B => (x_2B ++ ((l4, Df rr4 .ready none) :: ((rD4, Obj.deferred (some [])) :: ((r3, oc [(vs r_Sg_a r.slots.gens.length r_Sg_c), (vs r_Su_a r.slots.used.length r_Su_c), (vs r_Sf_a r.slots.free.length r_Sf_c), (vs r_l_a r.l.length r_l_c), (vi r.seq)] 28) :: ((r2, oc [(vs x_2a x_2.length x_2c)] 66) :: ((r1, oc [(vs r_Sg_a r.slots.gens.length r_Sg_c), (vs r_Su_a r.slots.used.length r_Su_c), (vs r_Sf_a r.slots.free.length r_Sf_c), (vs r_l_a r.l.length r_l_c), (vi r.seq)] 28) :: []))))))) (fun n_3 x_1 x_2 x_2a x_2c x_2B => [(0, (Value.func (.yield l4) [].toArray [].toArray)), (1, (Value.pointer (some ⟨r3, 0, none⟩))), (6, (vs r_l_a r.l.length r_l_c)), (7, (vi ((r.l.length : Nat) : Int))), (8, (vi ((x_1 : Nat) : Int)))]) (fun n_3 x_1 x_2 x_2a x_2c x_2B => r.l.length - x_1 < n_3 ∧ Is (Kp r (r.l.length + 1) 0 []) (Kp r n_3 x_1 x_2) ∧ Bi eS 1 9 x_2a x_2c x_2B x_2 ∧ x_2.length ≤ x_1 ∧ x_1 ≤ r.l.length) (fun n_3 x_1 x_2 x_2a x_2c x_2B => n_3) (r.l.length + 1) 0 ([]) none 0 ([]) ?_ se (List.Perm.refl _) ?_
 ·exact ⟨Nat.lt_succ_self _, Is.refl _, Bi.nil, Kh, Kh⟩
 ·rintro (_ | n_3) x_1 x_2 x_2a x_2c x_2B ⟨hm5, hF4, hx_2, hi6, hi7⟩
  ·omega
  refine Zd ?_
  refine Au rfl (fun hq1 => ?_) (fun hq1 => ?_)
  rotate_left
  ·refine Ca ?_
   refine Pl ?_
   refine Kb (.inr rfl) results85 (qc q0) ?_
   refine fY ?_
   refine Af (Bv isAgg66) (k := ?_)
   refine Z6 ?_
   refine Du [rD4] (qa (qc q0)) results28 z1 (fun w1 hw1 => ?_)
   exact ⟨x_2a, x_2c, x_2B, (rq (hF.rn2 (hF4.neg hq1))), (Ba (L := x_2B) (hw1.perm (qb q0)) rfl.symm), (by rw [(hF.rn2 (hF4.neg hq1)).eq]; exact hx_2), (rl (hF.rn2 (hF4.neg hq1)))⟩
  refine fJ ?_
  refine L7 ?_
  have hcp2 := (h_r_l.2.2 x_1 z3).2.2.1
  have hcp3 := (h_r_l.2.2 x_1 z3).2.2.2
  refine Q3 ?_
  refine Ah Ag Ur (k := fun r5 hr5 => ?_)
  refine tU ?_
  refine Pk ?_
  refine yB ?_
  refine dO (vs := [(vi ((x_1 : Nat) : Int)), (Value.agg [(vi ((r.l.getD x_1 default).handle.slot)), (vi ((r.l.getD x_1 default).handle.gen)), (vt ((r.l.getD x_1 default).name)), (vi ((r.l.getD x_1 default).state)), (vi ((r.l.getD x_1 default).version)), (vs ((r_l_t.getD x_1 default).ra) ((r.l.getD x_1 default).rules.length) ((r_l_t.getD x_1 default).rc)), (vs ((r_l_t.getD x_1 default).ca) ((r.l.getD x_1 default).creds.length) ((r_l_t.getD x_1 default).cc)), (vi ((r.l.getD x_1 default).deadline)), (vi r.seq)].toArray)]) hl4 (qa (qc q0)) Eo ?_
  refine Cs ?_
  refine Ah Ag z56 (k := fun r6 hr6 => ?_)
  refine xU ?_
  refine AD0 ?_
  refine Af (Bv isAgg66) (k := ?_)
  refine gB ?_
  refine oS ?_
  refine Ah Ag (Eb (l := [_]) runUnderlying66 sizeOf9 zeroValue9) (k := fun r7 hr7 => ?_)
  refine Az (x_2 ++ ([((r.l.getD x_1 default).name)] : List Ap)) rfl AS7 underlying66 hQ hx_2 (qb (qb (qb (qb q0)))) (Bp.lit (xs := ([((r.l.getD x_1 default).name)] : List Ap)) hQ) ⟨by omega, by omega⟩ (n := x_2.length) (m := 1) (k := fun ax1 cx1 Bx1 hox1 => ?_)
  have hal1 : (x_2 ++ ([((r.l.getD x_1 default).name)] : List Ap)).length = x_2.length + 1 := by first | rfl | exact List.length_append | simp
  refine Gw (Bt (l' := [_]) sizeOf66) (k := ?_)
  refine oX ?_
  refine Fv (qc (qa q0)) ?_
  refine Rj ?_
  refine Xk ?_
  refine Ci _ ((((((qa (qc (qa (qa (qa (qa (qa (qa q0)))))))).trans (qa (qa (qc (qa (qa (qa (qa (qa q0))))))))).trans (qa (qa (qa (qc (qa (qa (qa (qa q0))))))))).trans (qa (qa (qa (qa (qc (qa (qa (qa q0))))))))).trans (qa (qa (qa (qa q0))))).trans (qb (qb (qb (qb (qb q0)))))) ?_
  refine Cj _ (List.Sublist.append Ou (List.Sublist.cons_cons _ (List.Sublist.cons_cons _ (List.Sublist.cons_cons _ oJ)))) ?_
  exact Kt n_3 (x_1 + 1) (x_2 ++ ([((r.l.getD x_1 default).name)] : List Ap)) ax1 cx1 Bx1 ⟨by omega, (hF4.pos hq1), hox1, z2, z2⟩ (Nat.lt_succ_self _) se (List.Perm.refl _)

theorem sK (w : World) {n_ : Int} : Calls Tryz.prog 29 (List.toArray [(vi n_)]) w fun e w2 => ∃ a1 : Option Addr, ∃ c1 : Nat, ∃ a2 : Option Addr, ∃ c2 : Nat, ∃ a3 : Option Addr, ∃ c3 : Nat, ∃ a4 : Option Addr, ∃ c4 : Nat, ∃ t4 : List TA, ∃ B : Aj, e = .returned (Value.tuple [(Value.agg [(vs a1 ((Cu n_).1.slots.gens.length) c1), (vs a2 ((Cu n_).1.slots.used.length) c2), (vs a3 ((Cu n_).1.slots.free.length) c3), (vs a4 ((Cu n_).1.l.length) c4), (vi ((Cu n_).1.seq))].toArray), (vi ((Cu n_).2))].toArray) ∧ Dh w w2 B ∧ Dw B eI 1 a1 (Cu n_).1.slots.gens ∧ Dw B eB 1 a2 (Cu n_).1.slots.used ∧ Dw B eI 1 a3 (Cu n_).1.slots.free ∧ (Cx B Bu 8 DT a4 (Cu n_).1.l t4 ∧ (Cu n_).1.l.length ≤ c4) ∧ (Cu n_).1.slots.gens.length ≤ 1000 ∧ (Cu n_).1.slots.used.length ≤ 1000 ∧ (Cu n_).1.slots.free.length ≤ 1000 ∧ (Cu n_).1.l.length ≤ 1000 := by
 have hF := Is.refl (Cu n_)
 refine enter func29 ntmps29 (h := ?_)
 refine Z2 ?_
 refine Ah Ag Wy (k := fun r1 hr1 => ?_)
 refine Jq ?_
 refine Gy (Ad call64) (fun w1 hw1 => T7 w1 (n_ := n_)) (k := ?_)
 rintro w1_1 e1_1 w2_1 hw1_1 ⟨a1_1, c1_1, a2_1, c2_1, a3_1, c3_1, B_1, he_1, hf_1, hs1_1, hs2_1, hs3_1, hl1_1, hl2_1, hl3_1⟩
 refine ⟨_, _, he_1, hw1_1.fresh hf_1, ?_⟩
 refine Ry ?_
 refine Ah Ag jB (k := fun r2 hr2 => ?_)
 refine lZ ?_
 refine Jr ?_
 refine bI ?_
 refine Af z62 (k := ?_)
 refine Cg ?_
 refine cZ ?_
 refine Z6 ?_
 refine Ab results29 (Fb.agg isAgg28 sizeOf28 rfl me rfl z1) (fun w1 hw1 => ?_)
 exact ⟨a1_1, c1_1, a2_1, c2_1, a3_1, c3_1, none, 0, [], B_1, (rq hF), (Ba (L := B_1) (hw1.perm (qb q0)) rfl.symm), (by unfold Cu; exact (hs1_1.mono z8)), (by unfold Cu; exact (hs2_1.mono z8)), (by unfold Cu; exact (hs3_1.mono z8)), (by unfold Cu; exact ⟨Cx.nil, by first | (simp; done) | exact Nat.le_of_eq rfl⟩), (by unfold Cu; first | exact lb), (by unfold Cu; first | exact lb), (by unfold Cu; first | exact lb), (by unfold Cu; first | exact lb)⟩

end Go.Proofs.YtopjaeoklkpcpaaGreatDoor.Jd

namespace Go.Proofs.YtopjaeoklkpcpaaGreatDoor.Jd
open Go.Proofs.Tryz
open Go.Proofs
set_option maxRecDepth 100000
open Go.RowKit Go.Extern.Stop Go.Stop Go.Extern
set_option linter.unusedVariables false
set_option linter.unusedSimpArgs false
theorem AJ0 (t : Value) (w : World) : Calls Tryz.prog 76 #[.nilIface, t] w fun e w' => e = .returned (.bool false) ∧ w' = w := by
  go_enter func76, ntmps76
  go_wp2
  go_ret
  exact ⟨rfl, rfl⟩
theorem G1 (w : World) {t : Value} : Hn Tryz.prog 76 [.nilIface, t] w (.bool false) :=
  (AJ0 t w).mono fun e w' ⟨he, hw⟩ => ⟨he, hw ▸ Below.refl _ _⟩
theorem nN (t : Addr) (w : World) : (ReflectliteValue.unpack (.iface 122 (.pointer (some t)))).run Tryz.prog w
    = .ok (.agg #[.pointer (some ⟨6, 122, none⟩), .pointer (some ⟨w.heap.size, 0, none⟩), .int .u64 150]) (w.alloc (.cells #[.pointer (some t)] 122)) := by kernel_rfl
theorem G2 (a : Addr) (w : World) : (ReflectliteValue.methodAny (ReflectliteValue.valueError "reflectlite.Value.Type" 0) (fun t _ _ _ => ReflectliteType.toType t) #[.agg #[.pointer (some ⟨6, 122, none⟩), .pointer (some a), .int .u64 150]]).run Tryz.prog w
    = .ok (.iface 199 (.agg #[.pointer (some ⟨6, 122, none⟩)])) w := by kernel_rfl
theorem gO (h : Value) (w : World) : (Go.method 373 199 (.agg #[h]) "Kind").run Tryz.prog w = .ok (196, h) w := by kernel_rfl
theorem G3 (w : World) : ((ReflectliteType.abiMethod fun t => (fun a : Nat => Value.int IntKind.u8 (a : Int)) <$> Rtype.kind t) #[.pointer (some ⟨6, 122, none⟩)]).run Tryz.prog w = .ok (.int .u8 22) w := by kernel_rfl
theorem G4 (w : World) : ((ReflectliteType.abiMethod fun t => (fun a : Nat => Value.int IntKind.u8 (a : Int)) <$> Rtype.kind t) #[.pointer (some ⟨6, 120, none⟩)]).run Tryz.prog w = .ok (.int .u8 25) w := by kernel_rfl
theorem G5 (z : Sem Value) (f : TypeId → Addr → Nat → Nat → Sem Value) (v : Value) :
    ReflectliteValue.method z f #[v] = (do match ← ReflectliteValue.parts v with | none => z | some (t, a, fl) => f t a fl (fl % 32)) := rfl
theorem iN (a : Addr) (w : World) : (ReflectliteValue.parts (.agg #[.pointer (some ⟨6, 122, none⟩), .pointer (some a), .int .u64 150])).run Tryz.prog w = .ok (some (122, a, 150)) w := by kernel_rfl
theorem vQ (a p : Addr) (W : World) (ha : W.cell? a = some (.pointer (some p))) :
    (ReflectliteValue.method (ReflectliteValue.valueError "reflectlite.Value.IsNil" 0) ReflectliteValue.isNil #[.agg #[.pointer (some ⟨6, 122, none⟩), .pointer (some a), .int .u64 150]]).run Tryz.prog W = .ok (.bool false) W := by
  rw [G5]
  simp only [Sem.run_bind, iN, Result.andThen]
  simp [ReflectliteValue.isNil, loadVar, isAgg, underlying, underlying122, ha, Result.andThen]
theorem gP (h : Value) (w : World) : (Go.method 373 199 (.agg #[h]) "Elem").run Tryz.prog w = .ok (206, .agg #[h]) w := by kernel_rfl
theorem Vb (h : Value) (w : World) : (Go.method 373 199 (.agg #[h]) "Implements").run Tryz.prog w = .ok (207, .agg #[h]) w := by kernel_rfl
theorem Rt (h : Value) (w : World) : (Go.method 373 199 (.agg #[h]) "AssignableTo").run Tryz.prog w = .ok (204, .agg #[h]) w := by kernel_rfl
theorem G6 (w : World) : (ReflectliteType.method ReflectliteType.elem #[.agg #[.pointer (some ⟨6, 122, none⟩)]]).run Tryz.prog w = .ok (.iface 199 (.agg #[.pointer (some ⟨6, 120, none⟩)])) w := by kernel_rfl
theorem eU (w : World) : (ReflectliteType.relation "Implements" ReflectliteType.implements_ #[.agg #[.pointer (some ⟨6, 120, none⟩)], .iface 199 (.agg #[.pointer (some ⟨6, 78, none⟩)])]).run Tryz.prog w = .ok (.bool true) w := by kernel_rfl
theorem qH (v : Value) (w : World) : (ReflectliteType.typeOf #[.iface 120 v]).run Tryz.prog w = .ok (.iface 199 (.agg #[.pointer (some ⟨6, 120, none⟩)])) w := by kernel_rfl
theorem eV (w : World) : (ReflectliteType.relation "AssignableTo" ReflectliteType.assignableTo #[.agg #[.pointer (some ⟨6, 120, none⟩)], .iface 199 (.agg #[.pointer (some ⟨6, 120, none⟩)])]).run Tryz.prog w = .ok (.bool true) w := by kernel_rfl
theorem nO (k : Int) (w : World) : (ReflectliteValue.unpack (.iface 120 (.agg #[.int .i64 k]))).run Tryz.prog w
    = .ok (.agg #[.pointer (some ⟨6, 120, none⟩), .pointer (some ⟨w.heap.size, 0, none⟩), .int .u64 153]) (w.alloc (.cells #[.int .i64 k] 120)) := by kernel_rfl
theorem qI (w : World) : (Rtype.elem? 122).run Tryz.prog w = .ok (some 120) w := by kernel_rfl
theorem AJ1 (p : Addr) (w : World) : (ReflectliteValue.mk 120 p ReflectliteValue.flagAddr).run Tryz.prog w = .ok (.agg #[.pointer (some ⟨6, 120, none⟩), .pointer (some p), .int .u64 409]) w := by kernel_rfl
theorem vR (a p : Addr) (W : World) (ha : W.cell? a = some (.pointer (some p))) :
    (ReflectliteValue.method (ReflectliteValue.valueError "reflectlite.Value.Elem" 0) ReflectliteValue.elem #[.agg #[.pointer (some ⟨6, 122, none⟩), .pointer (some a), .int .u64 150]]).run Tryz.prog W
      = .ok (.agg #[.pointer (some ⟨6, 120, none⟩), .pointer (some p), .int .u64 409]) W := by
  rw [G5]
  simp only [Sem.run_bind, iN, Result.andThen]
  simp [ReflectliteValue.elem, loadVar, isAgg, underlying, underlying122, ha, Result.andThen, qI, AJ1]
theorem AJ2 (v x : Value) : ReflectliteValue.set #[v, x] = (do
    let (some (dst, a, fl), some (src, b, _)) := (← ReflectliteValue.parts v, ← ReflectliteValue.parts x)
      | unsupported (.noEntry "extern/(internal/reflectlite.Value).Set.zeroValue")
    if fl / ReflectliteValue.flagAddr % 2 == 0 then unsupported (.noEntry "extern/(internal/reflectlite.Value).Set.unaddressable")
    let val ← loadVar src b
    if ← Rtype.directlyAssignable dst src then storeVar dst a val
    else if ← Rtype.implements dst src then
      if (← Rtype.kind src) == 20 then
        match val with
        | .nilIface => unsupported (.noEntry "extern/reflectlite: a nil value of one interface type handed on as a value of another")
        | _ => storeVar dst a val
      else storeVar dst a (.iface src val)
    else panicString ("reflectlite.Set: value of type " ++ (← Rtype.spelt src) ++ " is not assignable to type " ++ (← Rtype.spelt dst))
    pure (.tuple #[])) := rfl
theorem vS (a : Addr) (w : World) : (ReflectliteValue.parts (.agg #[.pointer (some ⟨6, 120, none⟩), .pointer (some a), .int .u64 409])).run Tryz.prog w = .ok (some (120, a, 409)) w := by kernel_rfl
theorem vT (a : Addr) (w : World) : (ReflectliteValue.parts (.agg #[.pointer (some ⟨6, 120, none⟩), .pointer (some a), .int .u64 153])).run Tryz.prog w = .ok (some (120, a, 153)) w := by kernel_rfl
theorem qJ (w : World) : (Rtype.directlyAssignable 120 120).run Tryz.prog w = .ok true w := by kernel_rfl
theorem G7 (w : World) : (sizeOf 120).run Tryz.prog w = .ok 1 w := by kernel_rfl
theorem W4 (w : World) : (isAgg 120).run Tryz.prog w = .ok true w := by kernel_rfl
theorem W5 (ta b : Addr) (k : Int) (old : Value) (W : World) (hb : W.cell? b = some (.int .i64 k)) (hsb : b.spot = none) (ht : W.cell? ta = some old) (hst : ta.spot = none) (hf : W.frozen? ta = false) :
    (ReflectliteValue.set #[.agg #[.pointer (some ⟨6, 120, none⟩), .pointer (some ta), .int .u64 409], .agg #[.pointer (some ⟨6, 120, none⟩), .pointer (some b), .int .u64 153]]).run Tryz.prog W
      = .ok (.tuple #[]) (W.setCell ta (.int .i64 k)) := by
  have hl : (loadCells b 1).run Tryz.prog W = .ok #[.int .i64 k] W := run_loadCells_list (P := Tryz.prog) W b [.int .i64 k] (fun j v hj => by
    rcases j with _ | j
    · cases hj
      simpa [Addr.add] using hb
    · simp at hj)
  rw [AJ2]
  simp only [Sem.run_bind, vS, vT, Result.andThen]
  simp [ReflectliteValue.flagAddr, loadVar, W4, G7, hl, Result.andThen, qJ, storeVar, Value.cells, storeCells, Addr.add]
  rw [run_store Tryz.prog W ta _ _ (by rfl)]
  simp [ht, hf]
set_option maxHeartbeats 4000000 in
theorem AJ3 (k : Int) (t : Addr) (old : Value) (w : World) (hg : w.cell? ⟨0, 0, none⟩ = some (.iface 199 (.agg #[.pointer (some ⟨6, 78, none⟩)]))) (ht0 : w.cell? t = some old) (hst : t.spot = none) (hf0 : w.frozen? t = false) :
    Calls Tryz.prog 76 #[.iface 120 (.agg #[.int .i64 k]), .iface 122 (.pointer (some t))] w fun ev w' => ev = .returned (.bool true) ∧ w' = ((((w.alloc (.cells #[.pointer (some t)] 122)).alloc (.cells #[.pointer (some ⟨6, 122, none⟩), .pointer (some ⟨w.heap.size, 0, none⟩), .int .u64 150] 169)).alloc (.cells #[.pointer (some ⟨6, 122, none⟩), .pointer (some ⟨w.heap.size, 0, none⟩), .int .u64 150] 169)).alloc (.cells #[.int .i64 k] 120)).setCell t (.int .i64 k) := by
  have h6 := @run_callFunc_extern Tryz.prog 116 _ (fun args => ReflectliteValue.unpack (args.getD 0 (.tuple #[]))) func116 z4 z4 z4 z4
  have h7 := @run_callFunc_extern Tryz.prog 117 _ (ReflectliteValue.methodAny (ReflectliteValue.valueError "reflectlite.Value.Type" 0) (fun t _ _ _ => ReflectliteType.toType t)) func117 z4 z4 z4 z4
  have h8 := @run_callFunc_extern Tryz.prog 118 _ (ReflectliteValue.method (ReflectliteValue.valueError "reflectlite.Value.IsNil" 0) ReflectliteValue.isNil) func118 z4 z4 z4 z4
  have h27 := @run_callFunc_extern Tryz.prog 196 _ (ReflectliteType.abiMethod fun t => do pure (.int .u8 (← Rtype.kind t))) func196 z4 z4 z4 z4
  have h37 := @run_callFunc_extern Tryz.prog 206 _ (ReflectliteType.method ReflectliteType.elem) func206 z4 z4 z4 z4
  have h38 := @run_callFunc_extern Tryz.prog 207 _ (ReflectliteType.relation "Implements" ReflectliteType.implements_) func207 z4 z4 z4 z4
  have h10 := @run_callFunc_extern Tryz.prog 148 _ ReflectliteType.typeOf func148 z4 z4 z4 z4
  have h35 := @run_callFunc_extern Tryz.prog 204 _ (ReflectliteType.relation "AssignableTo" ReflectliteType.assignableTo) func204 z4 z4 z4 z4
  have h11 := @run_callFunc_extern Tryz.prog 149 _ (ReflectliteValue.method (ReflectliteValue.valueError "reflectlite.Value.Elem" 0) ReflectliteValue.elem) func149 z4 z4 z4 z4
  have h12 := @run_callFunc_extern Tryz.prog 150 _ ReflectliteValue.set func150 z4 z4 z4 z4
  have tO := qH
  have mA := Rt
  have a25 := eV
  have v25 := nO
  have f6 := nN
  have f7 := G2
  have mK := gO
  have mE := gP
  have mI := Vb
  have k27 := G3
  have k25 := G4
  have e27 := G6
  have i25 := eU
  have n8 := vQ ⟨w.heap.size, 0, none⟩ t ((w.alloc (.cells #[.pointer (some t)] 122)).alloc (.cells #[.pointer (some ⟨6, 122, none⟩), .pointer (some ⟨w.heap.size, 0, none⟩), .int .u64 150] 169)) Hb
  have hlt : 0 < w.heap.size := by
    rcases Nat.lt_or_ge 0 w.heap.size with h | h
    · exact h
    · simp [World.cell?, Array.getElem?_eq_none h] at hg
  have hg2 : ((w.alloc (.cells #[.pointer (some t)] 122)).alloc (.cells #[.pointer (some ⟨6, 122, none⟩), .pointer (some ⟨w.heap.size, 0, none⟩), .int .u64 150] 169)).cell? ⟨0, 0, none⟩ = some (.iface 199 (.agg #[.pointer (some ⟨6, 78, none⟩)])) := by
    rw [World.cell?_alloc_lt _ _ ⟨0, 0, none⟩ (by first | (simp; done) | (simp; omega)), World.cell?_alloc_lt _ _ ⟨0, 0, none⟩ hlt]; exact hg
  have htl : t.block < w.heap.size := by
    rcases Nat.lt_or_ge t.block w.heap.size with h | h
    · exact h
    · simp [World.cell?, Array.getElem?_eq_none h] at ht0
  have el := vR ⟨w.heap.size, 0, none⟩ t (((w.alloc (.cells #[.pointer (some t)] 122)).alloc (.cells #[.pointer (some ⟨6, 122, none⟩), .pointer (some ⟨w.heap.size, 0, none⟩), .int .u64 150] 169)).alloc (.cells #[.pointer (some ⟨6, 122, none⟩), .pointer (some ⟨w.heap.size, 0, none⟩), .int .u64 150] 169)) (by rw [World.cell?_alloc_lt _ _ ⟨w.heap.size, 0, none⟩ cJ]; simp)
  have st := W5 t ⟨w.heap.size + 1 + 1 + 1, 0, none⟩ k old ((((w.alloc (.cells #[.pointer (some t)] 122)).alloc (.cells #[.pointer (some ⟨6, 122, none⟩), .pointer (some ⟨w.heap.size, 0, none⟩), .int .u64 150] 169)).alloc (.cells #[.pointer (some ⟨6, 122, none⟩), .pointer (some ⟨w.heap.size, 0, none⟩), .int .u64 150] 169)).alloc (.cells #[.int .i64 k] 120))
    (by rw [World.cell?_alloc_at _ _ _ _ Hb]; rfl) rfl
    (by rw [World.cell?_alloc_lt _ _ t (by first | (simp; done) | (simp; omega)), World.cell?_alloc_lt _ _ t cJ, World.cell?_alloc_lt _ _ t cJ, World.cell?_alloc_lt _ _ t htl]; exact ht0) hst
    (by rw [World.frozen?_alloc_old _ _ t cJ, World.frozen?_alloc_old _ _ t cJ, World.frozen?_alloc_old _ _ t cJ, World.frozen?_alloc_old _ _ t (Nat.ne_of_lt htl)]; exact hf0)
  go_enter func76, ntmps76
  go_wp2
  refine wp_loop_rounds 1 ?_
  rw [rounds_succ]
  go_wp2
  go_ret
  exact ⟨rfl, rfl⟩
theorem G8 (w : World) {k : Int} {r : Nat} {old : Value} {T : TypeId} (hg : w.cell? ⟨0, 0, none⟩ = some (.iface 199 (.agg #[.pointer (some ⟨6, 78, none⟩)]))) (hr : w.heap[r]? = some (.cells [old].toArray T)) :
    Calls Tryz.prog 76 [.iface 120 (.agg [.int .i64 k].toArray), .iface 122 (.pointer (some ⟨r, 0, none⟩))].toArray w fun e w' => e = .returned (.bool true) ∧ Tr w w' [(r, .cells [old].toArray T)] [(r, .cells [Value.int .i64 k].toArray T)] := by
  have hlt := (Array.getElem?_eq_some_iff.1 hr).1
  refine (AJ3 k ⟨r, 0, none⟩ old w hg (by simp [World.cell?, hr]) rfl (by simp [World.frozen?, hr])).mono ?_
  rintro e w' ⟨rfl, rfl⟩
  have hx : ∀ (o1 o2 o3 o4 : Obj) (j : Nat), j < w.heap.size → ((((w.alloc o1).alloc o2).alloc o3).alloc o4).heap[j]? = w.heap[j]? := fun o1 o2 o3 o4 j hj => by
    rw [Below.heap_alloc _ _ j cJ, Below.heap_alloc _ _ j cJ, Below.heap_alloc _ _ j cJ, Below.heap_alloc _ _ j hj]
  refine ⟨rfl, rfl, rfl, rfl, ?_, fun j hj hk => ?_, fun p hp => ?_, fun p hp => .inl ?_, by simp [keys]⟩
  · simp [World.setCell]; omega
  · rw [Below.heap_setCell _ _ _ j (fun e => hk (by subst e; simp [keys]))]
    exact hx _ _ _ _ j hj
  · have : p = (r, .cells [Value.int .i64 k].toArray T) := by simpa using hp
    subst this
    have h0 := hx (.cells #[.pointer (some ⟨r, 0, none⟩)] 122) (.cells #[.pointer (some ⟨6, 122, none⟩), .pointer (some ⟨w.heap.size, 0, none⟩), .int .u64 150] 169) (.cells #[.pointer (some ⟨6, 122, none⟩), .pointer (some ⟨w.heap.size, 0, none⟩), .int .u64 150] 169) (.cells #[.int .i64 k] 120) r hlt
    rw [hr] at h0
    simp only [World.setCell, Array.getElem?_modify, if_true]
    rw [h0]
    simp
  · have : p = (r, .cells [Value.int .i64 k].toArray T) := by simpa using hp
    subst this
    simp [keys]
end Go.Proofs.YtopjaeoklkpcpaaGreatDoor.Jd

namespace Go.Proofs.YtopjaeoklkpcpaaGreatDoor.Jd
open Go.Proofs.Tryz
open Go.Proofs
open Go.RowKit (Below)
set_option maxRecDepth 100000
set_option maxHeartbeats 8000000
set_option linter.unusedVariables false
set_option linter.unusedSimpArgs false
theorem G9 : Bo Tryz.prog 120 0 0 := fun r k w => by simp [Instr.fieldAt, Instr.sureAddr, fieldPlace, Bc]
theorem nP (w : World) {a_Sg_a : Option Addr} {a_Sg_c : Nat} {a_Su_a : Option Addr} {a_Su_c : Nat} {a_Sf_a : Option Addr} {a_Sf_c : Nat} {a_l_a : Option Addr} {a_l_c : Nat} {a_l_t : List TA} {b_Sg_a : Option Addr} {b_Sg_c : Nat} {b_Su_a : Option Addr} {b_Su_c : Nat} {b_Sf_a : Option Addr} {b_Sf_c : Nat} {b_l_a : Option Addr} {b_l_c : Nat} {b_l_t : List TA} {a : Ac} {b : Ac} (h_a_Sg : Sl w eI 1 a_Sg_a a.slots.gens) (n_a_Sg : a.slots.gens.length ≤ 1000) (h_a_Su : Sl w eB 1 a_Su_a a.slots.used) (n_a_Su : a.slots.used.length ≤ 1000) (h_a_Sf : Sl w eI 1 a_Sf_a a.slots.free) (n_a_Sf : a.slots.free.length ≤ 1000) (h_a_l : Rm w Bu 8 DT a_l_a a.l a_l_t) (n_a_l : a.l.length ≤ 1000) (k_a_l : a.l.length ≤ a_l_c) (h_b_Sg : Sl w eI 1 b_Sg_a b.slots.gens) (n_b_Sg : b.slots.gens.length ≤ 1000) (h_b_Su : Sl w eB 1 b_Su_a b.slots.used) (n_b_Su : b.slots.used.length ≤ 1000) (h_b_Sf : Sl w eI 1 b_Sf_a b.slots.free) (n_b_Sf : b.slots.free.length ≤ 1000) (h_b_l : Rm w Bu 8 DT b_l_a b.l b_l_t) (n_b_l : b.l.length ≤ 1000) (k_b_l : b.l.length ≤ b_l_c) (hsm : Bk a.l) (hsm2 : Bk b.l) : Hn Tryz.prog 26 [(Value.agg [(vs a_Sg_a a.slots.gens.length a_Sg_c), (vs a_Su_a a.slots.used.length a_Su_c), (vs a_Sf_a a.slots.free.length a_Sf_c), (vs a_l_a a.l.length a_l_c), (vi a.seq)].toArray), (Value.agg [(vs b_Sg_a b.slots.gens.length b_Sg_c), (vs b_Su_a b.slots.used.length b_Su_c), (vs b_Sf_a b.slots.free.length b_Sf_c), (vs b_l_a b.l.length b_l_c), (vi b.seq)].toArray)] w (Value.bool (Yo a b)) := by
 have hF := Is.refl (Yo a b)
 refine enter func26 ntmps26 (h := ?_)
 refine Z2 ?_
 refine Ah Ag Vf (k := fun r1 hr1 => ?_)
 refine Ah Ag Vf (k := fun r2 hr2 => ?_)
 refine Jr ?_
 refine fL ?_
 refine fL ?_
 refine Fu (Ad call60) (fun w1 hw1 => E0 w1 (a := a.slots) (b := b.slots) (h_a_gens := (Bp.of_base h_a_Sg) w1 hw1) (n_a_gens := z6) (h_a_used := (Bp.of_base h_a_Su) w1 hw1) (n_a_used := z6) (h_a_free := (Bp.of_base h_a_Sf) w1 hw1) (n_a_free := z6) (h_b_gens := (Bp.of_base h_b_Sg) w1 hw1) (n_b_gens := z6) (h_b_used := (Bp.of_base h_b_Su) w1 hw1) (n_b_used := z6) (h_b_free := (Bp.of_base h_b_Sf) w1 hw1) (n_b_free := z6)) (k := ?_)
 refine Cg ?_
 refine Di 10 rfl (fun hq1 => ?_) (fun hq1 => ?_)
 rotate_left
 ·refine Ae 5 rfl ?_
  refine fK ?_
  refine Ky ?_
  refine Ab results26 z1 (fun w1 hw1 => ?_)
  exact ⟨(rq (hF.f hq1)), hw1.ext_out⟩
 refine cM ?_
 refine cM ?_
 refine lV ?_
 refine Ao 17 rfl (fun hq2 => ?_) (fun hq2 => ?_)
 rotate_left
 ·refine Ae 5 rfl ?_
  refine Ky ?_
  refine Ab results26 z1 (fun w1 hw1 => ?_)
  exact ⟨(rq ((hF.t hq1).neg hq2)), hw1.ext_out⟩
 refine AD5 ?_
 refine AD5 ?_
 refine bY (args := [_, _, _]) (Ad call61) func61 ntmps61 ?_
 refine Ig ?_
 refine gC ?_
 refine Cg ?_
 refine gC ?_
 refine Vy ?_
 refine Au rfl (fun hq3 => ?_) (fun hq3 => ?_)
 ·refine Bg ?_
  refine Kz ?_
  refine Cc results61 z1 ?_
  refine Vv ?_
  refine Ab results26 z1 (fun w1 hw1 => ?_)
  exact ⟨(rq (((hF.t hq1).pos hq2).pos hq3)), hw1.ext_out⟩
 refine Js ?_
 refine Z4 ?_
 refine gC ?_
 refine Lq ?_
 refine Dr (σ1 := Nat) (σ2 := Nat) (fun n_2 x_1 => ((r2, oc [(vs b_Sg_a b.slots.gens.length b_Sg_c), (vs b_Su_a b.slots.used.length b_Su_c), (vs b_Sf_a b.slots.free.length b_Sf_c), (vs b_l_a b.l.length b_l_c), (vi b.seq)] 28) :: ((r1, oc [(vs a_Sg_a a.slots.gens.length a_Sg_c), (vs a_Su_a a.slots.used.length a_Su_c), (vs a_Sf_a a.slots.free.length a_Sf_c), (vs a_l_a a.l.length a_l_c), (vi a.seq)] 28) :: []))) (fun n_2 x_1 => [(1, (vs b_l_a b.l.length b_l_c)), (2, (Value.func (.func 62) [].toArray [].toArray)), (6, (Value.bool false)), (15, (vs a_l_a a.l.length a_l_c)), (16, (vi ((a.l.length : Nat) : Int))), (17, (vi ((x_1 : Nat) : Int)))]) (fun n_2 x_1 => a.l.length - x_1 < n_2 ∧ Is (Ln a b (a.l.length + 1) 0) (Ln a b n_2 x_1) ∧ x_1 ≤ a.l.length) (fun n_2 x_1 => n_2) (a.l.length + 1) 0 ?_ se (List.Perm.refl _) ?_
 ·exact ⟨Nat.lt_succ_self _, Is.refl _, Kh⟩
 ·rintro (_ | n_2) x_1 ⟨hm4, hF3, hi5⟩
  ·omega
  refine Zd ?_
  refine Au rfl (fun hq4 => ?_) (fun hq4 => ?_)
  rotate_left
  ·refine Ca ?_
   refine La ?_
   refine Cc results61 z1 ?_
   refine Vv ?_
   refine Ab results26 z1 (fun w1 hw1 => ?_)
   exact ⟨(rq ((((hF.t hq1).pos hq2).neg hq3).ok1 (hF3.neg hq4))), hw1.ext_out⟩
  refine fJ ?_
  refine Z4 ?_
  refine Af (Cb (n := a.l.length) runUnderlying26 sizeOf52 x_1 (Ds.of_base Dc h_a_l).sl (Cv h_a_l.1 z3) (Br h_a_l.1)) (k := ?_)
  have hcp5 := (h_a_l.2.2 x_1 z3).2.2.1
  have hcp6 := (h_a_l.2.2 x_1 z3).2.2.2
  refine Af (Cn isAgg52 sizeOf52 x_1 (Ds.of_base Dc h_a_l).sl (Cv h_a_l.1 z3)) (k := ?_)
  refine Ah Ag Ur (k := fun r3 hr3 => ?_)
  refine tU ?_
  refine Pk ?_
  refine Af (Cb (n := b.l.length) runUnderlying26 sizeOf52 x_1 (Ds.of_base Dc h_b_l).sl (Cv h_b_l.1 z3) (Br h_b_l.1)) (k := ?_)
  have hcp7 := (h_b_l.2.2 x_1 z3).2.2.1
  have hcp8 := (h_b_l.2.2 x_1 z3).2.2.2
  refine Af (Cn isAgg52 sizeOf52 x_1 (Ds.of_base Dc h_b_l).sl (Cv h_b_l.1 z3)) (k := ?_)
  refine Ah Ag Ur (k := fun r4 hr4 => ?_)
  refine L4 ?_
  refine Z4 ?_
  refine uD ?_
  refine uD ?_
  refine Fu (Ad call62) (fun w1 hw1 => qF w1 (a := (a.l.getD x_1 default)) (b := (b.l.getD x_1 default)) (h_a_rules := (fun w hw => ((Ds.of_base Dc h_a_l).at (m := x_1) z3 w hw).1) w1 hw1) (n_a_rules := by first | omega | exact (hsm _ z2).1 | exact (hsm _ z2).2 | exact (hsm2 _ z2).1 | exact (hsm2 _ z2).2) (h_a_creds := (fun w hw => ((Ds.of_base Dc h_a_l).at (m := x_1) z3 w hw).2.1) w1 hw1) (n_a_creds := by first | omega | exact (hsm _ z2).1 | exact (hsm _ z2).2 | exact (hsm2 _ z2).1 | exact (hsm2 _ z2).2) (h_b_rules := (fun w hw => ((Ds.of_base Dc h_b_l).at (m := x_1) z3 w hw).1) w1 hw1) (n_b_rules := by first | omega | exact (hsm _ z2).1 | exact (hsm _ z2).2 | exact (hsm2 _ z2).1 | exact (hsm2 _ z2).2) (h_b_creds := (fun w hw => ((Ds.of_base Dc h_b_l).at (m := x_1) z3 w hw).2.1) w1 hw1) (n_b_creds := by first | omega | exact (hsm _ z2).1 | exact (hsm _ z2).2 | exact (hsm2 _ z2).1 | exact (hsm2 _ z2).2)) (k := ?_)
  refine Rj ?_
  refine Ct rfl (fun hq9 => ?_) (fun hq9 => ?_)
  rotate_left
  ·refine Bq ?_
   refine jC ?_
   refine Ci _ ((qa (qa (qa q0))).trans (qa (qa (qa q0)))) ?_
   refine Cj _ oJ ?_
   exact Dp n_2 (x_1 + 1) ⟨by omega, ((hF3.pos hq4).f hq9), z2⟩ (Nat.lt_succ_self _) se (List.Perm.refl _)
  refine Sa ?_
  refine Cc results61 z1 ?_
  refine Vv ?_
  refine Ab results26 z1 (fun w1 hw1 => ?_)
  exact ⟨(rq ((((hF.t hq1).pos hq2).neg hq3).er1 ((hF3.pos hq4).t hq9))), hw1.ext_out⟩

theorem vU (w : World) (hG : Gl w) : Hn Tryz.prog 42 [Value.nilIface] w (vi 0) := by
 have hF := Is.refl 0
 refine enter func42 ntmps42 (h := ?_)
 refine cR ?_
 refine Ah Ag (Dn (l := [_]) zeroValue120) (k := fun r1 hr1 => ?_)
 refine Me ?_
 refine Z4 ?_
 refine Af (mP underlying122) (k := ?_)
 refine Fu (args := [Value.nilIface, (Value.iface 122 (Value.pointer (some ⟨r1, 0, none⟩)))]) (Ad call76) (fun w1 hw1 => G1 w1) (k := ?_)
 refine Z0 ?_
 refine Gj rfl ?_
 refine aY ?_
 refine Vw ?_
 refine Ab results42 z1 (fun w1 hw1 => ?_)
 exact ⟨(by rfl), hw1.ext_out⟩

theorem vV (w : World) {e_ : Int} (hG : Gl w) : Hn Tryz.prog 42 [(Value.iface 120 (Value.agg [(vi e_)].toArray))] w (vi e_) := by
 have hF := Is.refl e_
 refine enter func42 ntmps42 (h := ?_)
 refine cR ?_
 refine Ah Ag (Dn (l := [_]) zeroValue120) (k := fun r1 hr1 => ?_)
 refine Me ?_
 refine Z4 ?_
 refine Af (mP underlying122) (k := ?_)
 refine Gy (args := [(Value.iface 120 (Value.agg [(vi e_)].toArray)), (Value.iface 122 (Value.pointer (some ⟨r1, 0, none⟩)))]) (Ad call76) (fun w1 hw1 => G8 w1 (hG.ext hw1.ext_out).ety (hw1.own _ me)) (k := ?_)
 rintro w1_1 e1_1 w2_1 hw1_1 ⟨he_1, hT_1⟩
 refine ⟨_, _, he_1, (hw1_1.perm q0).tr hT_1, ?_⟩
 refine fZ ?_
 refine Af (Ai G9) (k := ?_)
 refine Af (Bv isAgg40) (k := ?_)
 refine Pi ?_
 refine Ab results42 z1 (fun w1 hw1 => ?_)
 exact ⟨(by rfl), hw1.ext_out⟩

end Go.Proofs.YtopjaeoklkpcpaaGreatDoor.Jd

namespace Go.Proofs.YtopjaeoklkpcpaaGreatDoor.Jd
open Go.Proofs.Tryz
open Go.Proofs
open Go.RowKit (Below)
set_option maxRecDepth 100000
set_option maxHeartbeats 8000000
set_option linter.unusedVariables false
set_option linter.unusedSimpArgs false


theorem qK (w : World) {s_a : Option Addr} {s_c : Nat} {s : List (Aa × TA)} (h_s : Sl w Bu 8 s_a s) (n_s : s.length ≤ 1000000) : Calls Tryz.prog 115 (List.toArray [(vs s_a s.length s_c)]) w fun e w2 => ∃ a1 : Option Addr, ∃ c1 : Nat, ∃ B1 : Aj, e = .returned (vs a1 s.length c1) ∧ Dh w w2 B1 ∧ Bi Bu 8 52 a1 c1 B1 s := by
 have hF := Is.refl s
 refine enter func115 ntmps115 (h := ?_)
 refine Ig ?_
 refine Af (Xs runUnderlying26) (k := ?_)
 refine Z0 ?_
 refine Ct rfl (fun hq1 => ?_) (fun hq1 => ?_)
 ·refine Bg ?_
  refine Kz ?_
  refine Ab results115 z1 (fun w1 hw1 => ?_)
  have hcan0 : ([] : List (Aa × TA)) = s := by (first | rfl | (exact He h_s Ey))
  have hlen0 : 0 = s.length := by first | (rw [← hcan0]; done) | (rw [← hcan0]; first | rfl | (simp; done) | (simp only [List.length_append, List.length_take, List.length_drop, List.length_set, List.length_replicate, List.length_cons, List.length_nil, List.length_map, Cq, Cp]; omega) | (simp; omega))
  exact ⟨none, 0, [], kZ, (hw1.fresh_out.sub Nr), (hcan0 ▸ Bi.nil)⟩
 refine Rr ?_
 refine Ah Ag (Eb (l := []) runUnderlying26 sizeOf52 zeroValue52) (k := fun r1 hr1 => ?_)
 refine Cg ?_
 refine Az s (List.nil_append _) Gd underlying26 Av Bi.nil (List.Perm.refl _) (Bp.of_base h_s) ⟨by omega, by omega⟩ (n := 0) (m := s.length) (k := fun ax1 cx1 Bx1 hox1 => ?_)
 refine Z6 ?_
 refine Ab results115 z1 (fun w1 hw1 => ?_)
 have hcan0 : s = s := by (first | rfl | (exact He h_s Ey))
 have hlen0 : s.length = s.length := by first | (rw [← hcan0]; done) | (rw [← hcan0]; first | rfl | (simp; done) | (simp only [List.length_append, List.length_take, List.length_drop, List.length_set, List.length_replicate, List.length_cons, List.length_nil, List.length_map, Cq, Cp]; omega) | (simp; omega))
 exact ⟨ax1, cx1, Bx1, kZ, (Ba (L := Bx1) (hw1.perm (List.Perm.refl _)) rfl.symm), (hcan0 ▸ hox1)⟩

theorem nR (w : World) {s_a : Option Addr} {s_c : Nat} {s_B : Aj} {s : List (Aa × TA)} {i : Int} {j : Int} (o_s : Bi Bu 8 52 s_a s_c s_B s) (b_s : ∀ p ∈ s_B, w.heap[p.1]? = some p.2) (n_s : s.length ≤ 1000000) (hi : 0 ≤ i ∧ i < j ∧ j ≤ s.length) : Calls Tryz.prog 114 (List.toArray [(vs s_a s.length s_c), (vi i), (vi j)]) w fun e w2 => ∃ a1 : Option Addr, ∃ c1 : Nat, ∃ B1 : Aj, e = .returned (vs a1 ((delL s i.toNat j.toNat).length) c1) ∧ Tr w w2 s_B B1 ∧ Bi Bu 8 52 a1 c1 B1 (delL s i.toNat j.toNat) := by
 have hF := Is.refl (delL s i.toNat j.toNat)
 have hiN : i.toNat < j.toNat ∧ j.toNat ≤ s.length := by omega
 have hMk : ∀ k ∈ keys s_B, k < w.heap.size := fun k hk => by
  obtain ⟨o, ho⟩ := Ii hk
  exact (Array.getElem?_eq_some_iff.1 (b_s _ ho)).1
 have hle0 := o_s.le'
 refine pB (keys s_B) (s_B ++ []) (by simpa using b_s) (fun p hp => Pv (by simpa using hp)) (by simpa using o_s.nd) func114 ntmps114 (h := ?_)
 refine Ut ?_
 refine Pk ?_
 refine K9 ?_
 refine gC ?_
 have hle1 := o_s.le'
 refine Af (Sn (n := s.length) (c := s_c) (i := i) (i2 := j) (i3 := ((s.length : Nat) : Int)) i.toNat j.toNat s.length (j.toNat - i.toNat) runUnderlying26 sizeOf52 (hlo := z3) (hhi := z3) (hmx := z3) (hm := rfl)) (k := ?_)
 refine Me ?_
 refine Pk ?_
 refine Zg ?_
 refine Z0 ?_
 refine Au rfl (fun hq2 => ?_) (fun hq2 => ?_)
 ·exfalso
  omega
 refine aY ?_
 refine Z4 ?_
 refine gC ?_
 refine AP3 ?_
 refine Xa ?_
 have hl3 : (s.take i.toNat).length = i.toNat := by rw [List.length_take]; omega
 have hl3c := o_s.le'
 refine Aw (Fz (s.take i.toNat).length runUnderlying26 (fun w => ⟨_, sizeOf52 w⟩) (hm := z2) (hi := z2)) (k := ?_)
 refine Xa ?_
 have hle4 := o_s.le'
 have hld5 : (s.drop j.toNat).length = s.length - j.toNat := List.length_drop
 refine Aw (Fw (n := s.length) (c := s_c) (i := j) j.toNat (s.drop j.toNat).length runUnderlying26 sizeOf52 (hlo := z3) (hnc := Ru) (hm := z5)) (k := ?_)
 refine aI (n := (s.take i.toNat).length) (m := (s.drop j.toNat).length) ((s.take i.toNat) ++ (s.drop j.toNat)) rfl Gd underlying26 Av (o_s.take Av i.toNat) q0 (Bp.off (o_s.slj Av (by intro p hp; first | exact hp | (simp [hp]; done))) j.toNat s_c Ru) Ri (k := fun Bx2 hox2 => ?_)
 refine Ov ?_
 refine My (nA nE) ?_
 refine Z0 ?_
 refine Pk ?_
 refine gC ?_
 refine Cg ?_
 have hle6 := hox2.le'
 refine Af (aG (n := ((s.take i.toNat) ++ (s.drop j.toNat)).length) (c := s_c) (i := (((((s.take i.toNat) ++ (s.drop j.toNat)).length) : Nat) : Int)) (i2 := ((s.length : Nat) : Int)) (((s.take i.toNat) ++ (s.drop j.toNat)).length) s.length (s.length - (((s.take i.toNat) ++ (s.drop j.toNat)).length)) runUnderlying26 sizeOf52 (hlo := z3) (hhi := z3) (hm := rfl)) (k := ?_)
 refine aH (dn := (s.length - (((s.take i.toNat) ++ (s.drop j.toNat)).length))) (x0 := default) (((s.take i.toNat) ++ (s.drop j.toNat)).length) Gd zeroValue52 rfl underlying26 Av hox2 q0 Ri Ri (kk := fun Bx3 hox3 => ?_)
 refine Pm ?_
 refine Z6 ?_
 refine Ab results114 z1 (fun w1 hw1 => ?_)
 have hcan0 : ((s.take i.toNat) ++ (s.drop j.toNat)) = (delL s i.toNat j.toNat) := by rfl
 have hlen0 : ((s.take i.toNat) ++ (s.drop j.toNat)).length = (delL s i.toNat j.toNat).length := by first | (rw [← hcan0]; done) | (rw [← hcan0]; first | rfl | (simp; done) | (simp only [List.length_append, List.length_take, List.length_drop, List.length_set, List.length_replicate, List.length_cons, List.length_nil, List.length_map, Cq, Cp]; omega) | (simp; omega))
 exact ⟨s_a, s_c, Bx3, kZ, ((hw1.perm (List.Perm.refl _)).tr_out.sub z47), (hcan0 ▸ hox3)⟩

theorem iO (w : World) {n_ : Int} (hi : 0 ≤ n_ ∧ n_ ≤ 1000000) : Calls Tryz.prog 127 (List.toArray [(vs none 0 0), (vi n_)]) w fun e w2 => ∃ a1 : Option Addr, ∃ c1 : Nat, ∃ B1 : Aj, e = .returned (vs a1 (([] : List (Aa × TA)).length) c1) ∧ Dh w w2 B1 ∧ Bi Bu 8 52 a1 c1 B1 ([] : List (Aa × TA)) := by
 have hF := Is.refl ([] : List (Aa × TA))
 refine enter func127 ntmps127 (h := ?_)
 refine Ig ?_
 refine Z9 ?_
 refine Au rfl (fun hq1 => ?_) (fun hq1 => ?_)
 ·exfalso
  omega
 refine Js ?_
 refine Pk ?_
 refine Af (zZ runUnderlying26) (k := ?_)
 refine Cg ?_
 refine gC ?_
 refine bJ ?_
 refine bJ ?_
 refine Jq ?_
 refine Af Lu (k := ?_)
 refine Z0 ?_
 refine Au rfl (fun hq2 => ?_) (fun hq2 => ?_)
 rotate_left
 ·refine Bq ?_
  refine Ea ?_
  refine Z4 ?_
  refine Z6 ?_
  refine Ab results127 z1 (fun w1 hw1 => ?_)
  have hcan0 : ([] : List (Aa × TA)) = ([] : List (Aa × TA)) := by (first | rfl | simp)
  have hlen0 : 0 = ([] : List (Aa × TA)).length := by first | (rw [← hcan0]; done) | (rw [← hcan0]; first | rfl | (simp; done) | (simp only [List.length_append, List.length_take, List.length_drop, List.length_set, List.length_replicate, List.length_cons, List.length_nil, List.length_map, Cq, Cp]; omega) | (simp; omega))
  exact ⟨none, 0, [], kZ, (hw1.fresh_out.sub Nr), (hcan0 ▸ Bi.nil)⟩
 refine lN ?_
 refine Af (zZ runUnderlying26) (k := ?_)
 have hl3 : (([] : List (Aa × TA)).take 0).length = 0 := by rw [List.length_take]; omega
 refine Af (Fz (([] : List (Aa × TA)).take 0).length runUnderlying26 (fun w => ⟨_, sizeOf52 w⟩) (hm := z2) (hi := z2)) (k := ?_)
 refine Cg ?_
 refine dR (i := (n_ - 0)) (n := (([] : List (Aa × TA)).take 0).length) (c := 0) (x0 := default) (xs := (([] : List (Aa × TA)).take 0)) (m := (n_ - 0).toNat) Gd underlying26 underlying3 Av rfl (Bp.nilj.take 0) z3 z3 z3 ⟨by first | exact ix, by first | exact ix⟩ z2 (k := fun ax1 cx1 Bx1 hox1 => ?_)
 refine Cg ?_
 refine gC ?_
 have hl4 : (((([] : List (Aa × TA)).take 0) ++ List.replicate ((n_ - 0).toNat) default).take 0).length = 0 := by rw [List.length_take]; omega
 have hl4c := hox1.le'
 refine Af (Fz (((([] : List (Aa × TA)).take 0) ++ List.replicate ((n_ - 0).toNat) default).take 0).length runUnderlying26 (fun w => ⟨_, sizeOf52 w⟩) (hm := z2) (hi := z2)) (k := ?_)
 refine Jq ?_
 refine Z6 ?_
 refine Ab results127 z1 (fun w1 hw1 => ?_)
 have hcan0 : (((([] : List (Aa × TA)).take 0) ++ List.replicate ((n_ - 0).toNat) default).take 0) = ([] : List (Aa × TA)) := by (first | rfl | simp)
 have hlen0 : (((([] : List (Aa × TA)).take 0) ++ List.replicate ((n_ - 0).toNat) default).take 0).length = ([] : List (Aa × TA)).length := by first | (rw [← hcan0]; done) | (rw [← hcan0]; first | rfl | (simp; done) | (simp only [List.length_append, List.length_take, List.length_drop, List.length_set, List.length_replicate, List.length_cons, List.length_nil, List.length_map, Cq, Cp]; omega) | (simp; omega))
 exact ⟨ax1, cx1, Bx1, kZ, (Ba (L := Bx1) (hw1.perm (List.Perm.refl _)) rfl.symm), (hcan0 ▸ (hox1.take Av 0))⟩

theorem W6 (w : World) {s0a : Option Addr} {s0n : Nat} {s0c : Nat} {s1a : Option Addr} {s1n : Nat} {s1c : Nat} {s2a : Option Addr} {s2n : Nat} {s2c : Nat} {q_ : Int} {l_a : Option Addr} {l_c : Nat} {l : List (Aa × TA)} {x : Aa × TA} (h_l : Sl w Bu 8 l_a l) (n_l : l.length ≤ 1000) (k_l : l.length ≤ l_c) : Calls Tryz.prog 51 (List.toArray [(Value.agg [(vs s0a s0n s0c), (vs s1a s1n s1c), (vs s2a s2n s2c), (vs l_a l.length l_c), (vi q_)].toArray), (Value.agg [(vi x.1.handle.slot), (vi x.1.handle.gen), (vt x.1.name), (vi x.1.state), (vi x.1.version), (vs x.2.ra x.1.rules.length x.2.rc), (vs x.2.ca x.1.creds.length x.2.cc), (vi x.1.deadline)].toArray)]) w fun e w2 => ∃ a1 : Option Addr, ∃ c1 : Nat, ∃ B1 : Aj, e = .returned (Value.agg [(vs s0a s0n s0c), (vs s1a s1n s1c), (vs s2a s2n s2c), (vs a1 ((vO l x).length) c1), (vi q_)].toArray) ∧ Dh w w2 B1 ∧ Bi Bu 8 52 a1 c1 B1 (vO l x) := by
 have hF := Is.refl (vO l x)
 refine enter func51 ntmps51 (h := ?_)
 refine Z2 ?_
 refine Ah Ag Vf (k := fun r1 hr1 => ?_)
 refine Ah Ag z61 (k := fun r2 hr2 => ?_)
 refine Ah Ag Wy (k := fun r3 hr3 => ?_)
 refine Z0 ?_
 refine Ut ?_
 refine J7 ?_
 refine Dr (σ1 := Nat) (σ2 := Nat) (fun n_2 at_1 => ((r3, oc [(vs none 0 0), (vs none 0 0), (vs none 0 0), (vs none 0 0), (vi 0)] 28) :: ((r2, oc [(vi x.1.handle.slot), (vi x.1.handle.gen), (vt x.1.name), (vi x.1.state), (vi x.1.version), (vs x.2.ra x.1.rules.length x.2.rc), (vs x.2.ca x.1.creds.length x.2.cc), (vi x.1.deadline)] 52) :: ((r1, oc [(vs s0a s0n s0c), (vs s1a s1n s1c), (vs s2a s2n s2c), (vs l_a l.length l_c), (vi q_)] 28) :: [])))) (fun n_2 at_1 => [(2, (Value.pointer (some ⟨r1, 0, none⟩))), (3, (Value.pointer (some ⟨r2, 0, none⟩))), (4, (Value.pointer (some ⟨r3, 0, none⟩))), (5, (vi ((at_1 : Nat) : Int)))]) (fun n_2 at_1 => l.length - at_1 < n_2 ∧ Is (Uj l x (l.length + 1) 0) (Uj l x n_2 at_1) ∧ at_1 ≤ l.length) (fun n_2 at_1 => n_2) (l.length + 1) 0 ?_ se (List.Perm.refl _) ?_
 ·exact ⟨Nat.lt_succ_self _, Is.refl _, Kh⟩
 ·rintro (_ | n_2) at_1 ⟨hm4, hF3, hi5⟩
  ·omega
  refine Bg ?_
  refine Bg ?_
  refine Fi Da 18 [(true, 0), (true, 1), (true, 2), (true, 3), (true, 4), (true, 5), (true, 6), (true, 7), (true, 8), (true, 9), (true, 10), (true, 11), (true, 12), (true, 13), (true, 14), (true, 15), (true, 16), (true, 17)] z4 ?_
  refine Gu ?_
  refine Z85 ?_
  refine Aw (Ei runUnderlying26) (k := ?_)
  refine tS ?_
  refine Fm 12 rfl (fun hq1 => ?_) (fun hq1 => ?_)
  rotate_left
  ·refine Bm 11 rfl ?_
   refine Xf ?_
   refine tF ?_
   refine oM ?_
   refine Z2 ?_
   refine xD ?_
   refine Cg ?_
   have hld19 : (l.drop at_1).length = l.length - at_1 := List.length_drop
   refine AM6 ?_
   refine Bg ?_
   refine AO0 ?_
   refine Aw (Ei runUnderlying26) (k := ?_)
   refine Aw Lu (k := ?_)
   refine Gu ?_
   refine Fm 34 rfl (fun hq20 => ?_) (fun hq20 => ?_)
   rotate_left
   ·refine Bm 9 rfl ?_
    refine Xf ?_
    refine Gj rfl ?_
    refine Js ?_
    refine tG ?_
    refine Xa ?_
    have hl31 : (l.take at_1).length = at_1 := by rw [List.length_take]; omega
    refine uA ?_
    refine Se Ag J5 (k := fun r14 hr14 => ?_)
    refine Se Ag z36 (k := fun r15 hr15 => ?_)
    refine tM ?_
    refine Ig ?_
    refine bE ?_
    refine Rq ?_
    refine Au rfl (fun hq32 => ?_) (fun hq32 => ?_)
    ·exfalso
     omega
    refine Bq ?_
    refine aZ ?_
    refine Rq ?_
    refine Au rfl (fun hq33 => ?_) (fun hq33 => ?_)
    ·exfalso
     omega
    refine Bq ?_
    refine bA ?_
    refine Rq ?_
    refine Au rfl (fun hq34 => ?_) (fun hq34 => ?_)
    ·exfalso
     omega
    refine Xi ?_
    refine oM ?_
    refine L6 ?_
    rintro w1_7 e1_7 w2_7 hw1_7 ⟨a1_7, c1_7, B1_7, he_7, hf_7, ho1_7⟩
    refine ⟨_, _, he_7, hw1_7.fresh hf_7, ?_⟩
    refine Xc ?_
    refine bE ?_
    refine Rp ?_
    refine Az (([] : List (Aa × TA)) ++ (l.take at_1)) rfl Gd underlying26 Av ho1_7 q0 ((Bp.of_base h_l).take at_1) ⟨by first | omega | (simp only [List.length_append, List.length_nil, List.length_take, List.length_drop, List.length_cons]; omega), by first | omega | (simp only [List.length_append, List.length_nil, List.length_take, List.length_drop, List.length_cons]; omega)⟩ (n := ([] : List (Aa × TA)).length) (m := (l.take at_1).length) (k := fun ax16 cx16 Bx16 hox16 => ?_)
    have hal16 : (([] : List (Aa × TA)) ++ (l.take at_1)).length = ([] : List (Aa × TA)).length + (l.take at_1).length := by first | rfl | exact List.length_append | simp
    refine Wz ?_
    refine aZ ?_
    refine Rp ?_
    refine Az ((([] : List (Aa × TA)) ++ (l.take at_1)) ++ ([x] : List (Aa × TA))) rfl Gd underlying26 Av hox16 q0 (Bp.lit (xs := ([x] : List (Aa × TA))) Av) ⟨by first | omega | (simp only [List.length_append, List.length_nil, List.length_take, List.length_drop, List.length_cons]; omega), by first | omega | (simp only [List.length_append, List.length_nil, List.length_take, List.length_drop, List.length_cons]; omega)⟩ (n := (([] : List (Aa × TA)) ++ (l.take at_1)).length) (m := 1) (k := fun ax17 cx17 Bx17 hox17 => ?_)
    have hal17 : ((([] : List (Aa × TA)) ++ (l.take at_1)) ++ ([x] : List (Aa × TA))).length = (([] : List (Aa × TA)) ++ (l.take at_1)).length + 1 := by first | rfl | exact List.length_append | simp
    refine Wz ?_
    refine bA ?_
    refine Rp ?_
    refine Az (((([] : List (Aa × TA)) ++ (l.take at_1)) ++ ([x] : List (Aa × TA))) ++ (l.drop at_1)) rfl Gd underlying26 Av hox17 q0 (Bp.off bP at_1 l_c Ru) ⟨by first | omega | (simp only [List.length_append, List.length_nil, List.length_take, List.length_drop, List.length_cons]; omega), by first | omega | (simp only [List.length_append, List.length_nil, List.length_take, List.length_drop, List.length_cons]; omega)⟩ (n := ((([] : List (Aa × TA)) ++ (l.take at_1)) ++ ([x] : List (Aa × TA))).length) (m := (l.drop at_1).length) (k := fun ax18 cx18 Bx18 hox18 => ?_)
    have hal18 : (((([] : List (Aa × TA)) ++ (l.take at_1)) ++ ([x] : List (Aa × TA))) ++ (l.drop at_1)).length = ((([] : List (Aa × TA)) ++ (l.take at_1)) ++ ([x] : List (Aa × TA))).length + (l.drop at_1).length := by first | rfl | exact List.length_append | simp
    refine Wz ?_
    refine Vx ?_
    refine bF ?_
    refine Z96 ?_
    refine Gb ?_
    refine lL ?_
    refine bG ?_
    refine Ab results51 rK (fun w1 hw1 => ?_)
    exact ⟨ax18, cx18, Bx18, (rq (((((hF.rn1 (hF3.neg hq1)).neg hq20).neg hq32).neg hq33).neg hq34)), (Ba (L := Bx18) (hw1.perm (List.Perm.refl _)) rfl), (by rw [(((((hF.rn1 (hF3.neg hq1)).neg hq20).neg hq32).neg hq33).neg hq34).eq]; exact hox18)⟩
   refine Mq ?_
   refine AN2 ?_
   refine AO7 ?_
   refine Bl (Ai Kg) (k := ?_)
   refine AF6 ?_
   refine Bl Nv (k := ?_)
   refine bB ?_
   refine Au rfl (fun hq21 => ?_) (fun hq21 => ?_)
   rotate_left
   ·refine Bq ?_
    refine cT ?_
    refine tG ?_
    refine Xa ?_
    have hl27 : (l.take at_1).length = at_1 := by rw [List.length_take]; omega
    refine uA ?_
    refine Se Ag J5 (k := fun r12 hr12 => ?_)
    refine Se Ag z36 (k := fun r13 hr13 => ?_)
    refine tM ?_
    refine Ig ?_
    refine bE ?_
    refine Rq ?_
    refine Au rfl (fun hq28 => ?_) (fun hq28 => ?_)
    ·exfalso
     omega
    refine Bq ?_
    refine aZ ?_
    refine Rq ?_
    refine Au rfl (fun hq29 => ?_) (fun hq29 => ?_)
    ·exfalso
     omega
    refine Bq ?_
    refine bA ?_
    refine Rq ?_
    refine Au rfl (fun hq30 => ?_) (fun hq30 => ?_)
    ·exfalso
     omega
    refine Xi ?_
    refine oM ?_
    refine L6 ?_
    rintro w1_6 e1_6 w2_6 hw1_6 ⟨a1_6, c1_6, B1_6, he_6, hf_6, ho1_6⟩
    refine ⟨_, _, he_6, hw1_6.fresh hf_6, ?_⟩
    refine Xc ?_
    refine bE ?_
    refine Rp ?_
    refine Az (([] : List (Aa × TA)) ++ (l.take at_1)) rfl Gd underlying26 Av ho1_6 q0 ((Bp.of_base h_l).take at_1) ⟨by first | omega | (simp only [List.length_append, List.length_nil, List.length_take, List.length_drop, List.length_cons]; omega), by first | omega | (simp only [List.length_append, List.length_nil, List.length_take, List.length_drop, List.length_cons]; omega)⟩ (n := ([] : List (Aa × TA)).length) (m := (l.take at_1).length) (k := fun ax13 cx13 Bx13 hox13 => ?_)
    have hal13 : (([] : List (Aa × TA)) ++ (l.take at_1)).length = ([] : List (Aa × TA)).length + (l.take at_1).length := by first | rfl | exact List.length_append | simp
    refine Wz ?_
    refine aZ ?_
    refine Rp ?_
    refine Az ((([] : List (Aa × TA)) ++ (l.take at_1)) ++ ([x] : List (Aa × TA))) rfl Gd underlying26 Av hox13 q0 (Bp.lit (xs := ([x] : List (Aa × TA))) Av) ⟨by first | omega | (simp only [List.length_append, List.length_nil, List.length_take, List.length_drop, List.length_cons]; omega), by first | omega | (simp only [List.length_append, List.length_nil, List.length_take, List.length_drop, List.length_cons]; omega)⟩ (n := (([] : List (Aa × TA)) ++ (l.take at_1)).length) (m := 1) (k := fun ax14 cx14 Bx14 hox14 => ?_)
    have hal14 : ((([] : List (Aa × TA)) ++ (l.take at_1)) ++ ([x] : List (Aa × TA))).length = (([] : List (Aa × TA)) ++ (l.take at_1)).length + 1 := by first | rfl | exact List.length_append | simp
    refine Wz ?_
    refine bA ?_
    refine Rp ?_
    refine Az (((([] : List (Aa × TA)) ++ (l.take at_1)) ++ ([x] : List (Aa × TA))) ++ (l.drop at_1)) rfl Gd underlying26 Av hox14 q0 (Bp.off bP at_1 l_c Ru) ⟨by first | omega | (simp only [List.length_append, List.length_nil, List.length_take, List.length_drop, List.length_cons]; omega), by first | omega | (simp only [List.length_append, List.length_nil, List.length_take, List.length_drop, List.length_cons]; omega)⟩ (n := ((([] : List (Aa × TA)) ++ (l.take at_1)) ++ ([x] : List (Aa × TA))).length) (m := (l.drop at_1).length) (k := fun ax15 cx15 Bx15 hox15 => ?_)
    have hal15 : (((([] : List (Aa × TA)) ++ (l.take at_1)) ++ ([x] : List (Aa × TA))) ++ (l.drop at_1)).length = ((([] : List (Aa × TA)) ++ (l.take at_1)) ++ ([x] : List (Aa × TA))).length + (l.drop at_1).length := by first | rfl | exact List.length_append | simp
    refine Wz ?_
    refine Vx ?_
    refine bF ?_
    refine Z96 ?_
    refine Gb ?_
    refine lL ?_
    refine bG ?_
    refine Ab results51 rK (fun w1 hw1 => ?_)
    exact ⟨ax15, cx15, Bx15, (rq ((((((hF.rn1 (hF3.neg hq1)).pos hq20).neg hq21).neg hq28).neg hq29).neg hq30)), (Ba (L := Bx15) (hw1.perm (List.Perm.refl _)) rfl), (by rw [((((((hF.rn1 (hF3.neg hq1)).pos hq20).neg hq21).neg hq28).neg hq29).neg hq30).eq]; exact hox15)⟩
   refine fQ ?_
   have hld22 : ((l.drop at_1).drop 1).length = (l.drop at_1).length - 1 := List.length_drop
   refine AM5 ?_
   refine tG ?_
   refine Xa ?_
   have hl23 : (l.take at_1).length = at_1 := by rw [List.length_take]; omega
   refine uA ?_
   refine Se Ag J5 (k := fun r10 hr10 => ?_)
   refine Se Ag z36 (k := fun r11 hr11 => ?_)
   refine tM ?_
   refine Ig ?_
   refine bE ?_
   refine Rq ?_
   refine Au rfl (fun hq24 => ?_) (fun hq24 => ?_)
   ·exfalso
    omega
   refine Bq ?_
   refine aZ ?_
   refine Rq ?_
   refine Au rfl (fun hq25 => ?_) (fun hq25 => ?_)
   ·exfalso
    omega
   refine Bq ?_
   refine bA ?_
   refine Rq ?_
   refine Au rfl (fun hq26 => ?_) (fun hq26 => ?_)
   ·exfalso
    omega
   refine Xi ?_
   refine AN9 ?_
   rintro w1_5 e1_5 w2_5 hw1_5 ⟨a1_5, c1_5, B1_5, he_5, hf_5, ho1_5⟩
   refine ⟨_, _, he_5, hw1_5.fresh hf_5, ?_⟩
   refine Xc ?_
   refine bE ?_
   refine Rp ?_
   refine Az (([] : List (Aa × TA)) ++ (l.take at_1)) rfl Gd underlying26 Av ho1_5 q0 ((Bp.of_base h_l).take at_1) ⟨by first | omega | (simp only [List.length_append, List.length_nil, List.length_take, List.length_drop, List.length_cons]; omega), by first | omega | (simp only [List.length_append, List.length_nil, List.length_take, List.length_drop, List.length_cons]; omega)⟩ (n := ([] : List (Aa × TA)).length) (m := (l.take at_1).length) (k := fun ax10 cx10 Bx10 hox10 => ?_)
   have hal10 : (([] : List (Aa × TA)) ++ (l.take at_1)).length = ([] : List (Aa × TA)).length + (l.take at_1).length := by first | rfl | exact List.length_append | simp
   refine Wz ?_
   refine aZ ?_
   refine Rp ?_
   refine Az ((([] : List (Aa × TA)) ++ (l.take at_1)) ++ ([x] : List (Aa × TA))) rfl Gd underlying26 Av hox10 q0 (Bp.lit (xs := ([x] : List (Aa × TA))) Av) ⟨by first | omega | (simp only [List.length_append, List.length_nil, List.length_take, List.length_drop, List.length_cons]; omega), by first | omega | (simp only [List.length_append, List.length_nil, List.length_take, List.length_drop, List.length_cons]; omega)⟩ (n := (([] : List (Aa × TA)) ++ (l.take at_1)).length) (m := 1) (k := fun ax11 cx11 Bx11 hox11 => ?_)
   have hal11 : ((([] : List (Aa × TA)) ++ (l.take at_1)) ++ ([x] : List (Aa × TA))).length = (([] : List (Aa × TA)) ++ (l.take at_1)).length + 1 := by first | rfl | exact List.length_append | simp
   refine Wz ?_
   refine bA ?_
   refine Rp ?_
   refine Az (((([] : List (Aa × TA)) ++ (l.take at_1)) ++ ([x] : List (Aa × TA))) ++ ((l.drop at_1).drop 1)) rfl Gd underlying26 Av hox11 q0 (Bp.off (Bp.off bP at_1 l_c Ru) 1 (l_c - at_1) Ru) ⟨by first | omega | (simp only [List.length_append, List.length_nil, List.length_take, List.length_drop, List.length_cons]; omega), by first | omega | (simp only [List.length_append, List.length_nil, List.length_take, List.length_drop, List.length_cons]; omega)⟩ (n := ((([] : List (Aa × TA)) ++ (l.take at_1)) ++ ([x] : List (Aa × TA))).length) (m := ((l.drop at_1).drop 1).length) (k := fun ax12 cx12 Bx12 hox12 => ?_)
   have hal12 : (((([] : List (Aa × TA)) ++ (l.take at_1)) ++ ([x] : List (Aa × TA))) ++ ((l.drop at_1).drop 1)).length = ((([] : List (Aa × TA)) ++ (l.take at_1)) ++ ([x] : List (Aa × TA))).length + ((l.drop at_1).drop 1).length := by first | rfl | exact List.length_append | simp
   refine Wz ?_
   refine Vx ?_
   refine bF ?_
   refine Z96 ?_
   refine Gb ?_
   refine lL ?_
   refine bG ?_
   refine Ab results51 rK (fun w1 hw1 => ?_)
   exact ⟨ax12, cx12, Bx12, (rq ((((((hF.rn1 (hF3.neg hq1)).pos hq20).pos hq21).neg hq24).neg hq25).neg hq26)), (Ba (L := Bx12) (hw1.perm (List.Perm.refl _)) rfl), (by rw [((((((hF.rn1 (hF3.neg hq1)).pos hq20).pos hq21).neg hq24).neg hq25).neg hq26).eq]; exact hox12)⟩
  refine Bl (Ai Kf) (k := ?_)
  refine Bl (Bv isAgg26) (k := ?_)
  refine Mq ?_
  refine Bl (Cb (n := l.length) runUnderlying26 sizeOf52 at_1 bP (gD z3) Jv) (k := ?_)
  refine Bl (Pa Kg) (k := ?_)
  refine Bl (Pa Mb) (k := ?_)
  refine Bl (Bz isAgg3 at_1 0 bP (gD z3)) (k := ?_)
  refine Bl (Ai Kg) (k := ?_)
  refine AF6 ?_
  refine Bl Ps (k := ?_)
  refine bB ?_
  refine Au rfl (fun hq2 => ?_) (fun hq2 => ?_)
  ·refine Bq ?_
   refine Ea ?_
   refine Jx ?_
   refine Cs ?_
   refine fP ?_
   refine Pp ?_
   exact Dp n_2 (at_1 + 1) ⟨by omega, ((hF3.pos hq1).pos hq2), z2⟩ (Nat.lt_succ_self _) se (List.Perm.refl _)
  refine Ca ?_
  refine oM ?_
  refine Z2 ?_
  refine xD ?_
  refine Cg ?_
  have hld3 : (l.drop at_1).length = l.length - at_1 := List.length_drop
  refine AM6 ?_
  refine Bg ?_
  refine AO0 ?_
  refine Aw (Ei runUnderlying26) (k := ?_)
  refine Aw Lu (k := ?_)
  refine Gu ?_
  refine Fm 34 rfl (fun hq4 => ?_) (fun hq4 => ?_)
  rotate_left
  ·refine Bm 9 rfl ?_
   refine Xf ?_
   refine Gj rfl ?_
   refine Js ?_
   refine tG ?_
   refine Xa ?_
   have hl15 : (l.take at_1).length = at_1 := by rw [List.length_take]; omega
   refine uA ?_
   refine Se Ag J5 (k := fun r8 hr8 => ?_)
   refine Se Ag z36 (k := fun r9 hr9 => ?_)
   refine tM ?_
   refine Ig ?_
   refine bE ?_
   refine Rq ?_
   refine Au rfl (fun hq16 => ?_) (fun hq16 => ?_)
   ·exfalso
    omega
   refine Bq ?_
   refine aZ ?_
   refine Rq ?_
   refine Au rfl (fun hq17 => ?_) (fun hq17 => ?_)
   ·exfalso
    omega
   refine Bq ?_
   refine bA ?_
   refine Rq ?_
   refine Au rfl (fun hq18 => ?_) (fun hq18 => ?_)
   ·exfalso
    omega
   refine Xi ?_
   refine oM ?_
   refine L6 ?_
   rintro w1_4 e1_4 w2_4 hw1_4 ⟨a1_4, c1_4, B1_4, he_4, hf_4, ho1_4⟩
   refine ⟨_, _, he_4, hw1_4.fresh hf_4, ?_⟩
   refine Xc ?_
   refine bE ?_
   refine Rp ?_
   refine Az (([] : List (Aa × TA)) ++ (l.take at_1)) rfl Gd underlying26 Av ho1_4 q0 ((Bp.of_base h_l).take at_1) ⟨by first | omega | (simp only [List.length_append, List.length_nil, List.length_take, List.length_drop, List.length_cons]; omega), by first | omega | (simp only [List.length_append, List.length_nil, List.length_take, List.length_drop, List.length_cons]; omega)⟩ (n := ([] : List (Aa × TA)).length) (m := (l.take at_1).length) (k := fun ax7 cx7 Bx7 hox7 => ?_)
   have hal7 : (([] : List (Aa × TA)) ++ (l.take at_1)).length = ([] : List (Aa × TA)).length + (l.take at_1).length := by first | rfl | exact List.length_append | simp
   refine Wz ?_
   refine aZ ?_
   refine Rp ?_
   refine Az ((([] : List (Aa × TA)) ++ (l.take at_1)) ++ ([x] : List (Aa × TA))) rfl Gd underlying26 Av hox7 q0 (Bp.lit (xs := ([x] : List (Aa × TA))) Av) ⟨by first | omega | (simp only [List.length_append, List.length_nil, List.length_take, List.length_drop, List.length_cons]; omega), by first | omega | (simp only [List.length_append, List.length_nil, List.length_take, List.length_drop, List.length_cons]; omega)⟩ (n := (([] : List (Aa × TA)) ++ (l.take at_1)).length) (m := 1) (k := fun ax8 cx8 Bx8 hox8 => ?_)
   have hal8 : ((([] : List (Aa × TA)) ++ (l.take at_1)) ++ ([x] : List (Aa × TA))).length = (([] : List (Aa × TA)) ++ (l.take at_1)).length + 1 := by first | rfl | exact List.length_append | simp
   refine Wz ?_
   refine bA ?_
   refine Rp ?_
   refine Az (((([] : List (Aa × TA)) ++ (l.take at_1)) ++ ([x] : List (Aa × TA))) ++ (l.drop at_1)) rfl Gd underlying26 Av hox8 q0 (Bp.off bP at_1 l_c Ru) ⟨by first | omega | (simp only [List.length_append, List.length_nil, List.length_take, List.length_drop, List.length_cons]; omega), by first | omega | (simp only [List.length_append, List.length_nil, List.length_take, List.length_drop, List.length_cons]; omega)⟩ (n := ((([] : List (Aa × TA)) ++ (l.take at_1)) ++ ([x] : List (Aa × TA))).length) (m := (l.drop at_1).length) (k := fun ax9 cx9 Bx9 hox9 => ?_)
   have hal9 : (((([] : List (Aa × TA)) ++ (l.take at_1)) ++ ([x] : List (Aa × TA))) ++ (l.drop at_1)).length = ((([] : List (Aa × TA)) ++ (l.take at_1)) ++ ([x] : List (Aa × TA))).length + (l.drop at_1).length := by first | rfl | exact List.length_append | simp
   refine Wz ?_
   refine Vx ?_
   refine bF ?_
   refine Z96 ?_
   refine Gb ?_
   refine lL ?_
   refine bG ?_
   refine Ab results51 rK (fun w1 hw1 => ?_)
   exact ⟨ax9, cx9, Bx9, (rq (((((hF.rn1 ((hF3.pos hq1).neg hq2)).neg hq4).neg hq16).neg hq17).neg hq18)), (Ba (L := Bx9) (hw1.perm (List.Perm.refl _)) rfl), (by rw [(((((hF.rn1 ((hF3.pos hq1).neg hq2)).neg hq4).neg hq16).neg hq17).neg hq18).eq]; exact hox9)⟩
  refine Mq ?_
  refine AN2 ?_
  refine AO7 ?_
  refine Bl (Ai Kg) (k := ?_)
  refine AF6 ?_
  refine Bl Nv (k := ?_)
  refine bB ?_
  refine Au rfl (fun hq5 => ?_) (fun hq5 => ?_)
  rotate_left
  ·refine Bq ?_
   refine cT ?_
   refine tG ?_
   refine Xa ?_
   have hl11 : (l.take at_1).length = at_1 := by rw [List.length_take]; omega
   refine uA ?_
   refine Se Ag J5 (k := fun r6 hr6 => ?_)
   refine Se Ag z36 (k := fun r7 hr7 => ?_)
   refine tM ?_
   refine Ig ?_
   refine bE ?_
   refine Rq ?_
   refine Au rfl (fun hq12 => ?_) (fun hq12 => ?_)
   ·exfalso
    omega
   refine Bq ?_
   refine aZ ?_
   refine Rq ?_
   refine Au rfl (fun hq13 => ?_) (fun hq13 => ?_)
   ·exfalso
    omega
   refine Bq ?_
   refine bA ?_
   refine Rq ?_
   refine Au rfl (fun hq14 => ?_) (fun hq14 => ?_)
   ·exfalso
    omega
   refine Xi ?_
   refine oM ?_
   refine L6 ?_
   rintro w1_3 e1_3 w2_3 hw1_3 ⟨a1_3, c1_3, B1_3, he_3, hf_3, ho1_3⟩
   refine ⟨_, _, he_3, hw1_3.fresh hf_3, ?_⟩
   refine Xc ?_
   refine bE ?_
   refine Rp ?_
   refine Az (([] : List (Aa × TA)) ++ (l.take at_1)) rfl Gd underlying26 Av ho1_3 q0 ((Bp.of_base h_l).take at_1) ⟨by first | omega | (simp only [List.length_append, List.length_nil, List.length_take, List.length_drop, List.length_cons]; omega), by first | omega | (simp only [List.length_append, List.length_nil, List.length_take, List.length_drop, List.length_cons]; omega)⟩ (n := ([] : List (Aa × TA)).length) (m := (l.take at_1).length) (k := fun ax4 cx4 Bx4 hox4 => ?_)
   have hal4 : (([] : List (Aa × TA)) ++ (l.take at_1)).length = ([] : List (Aa × TA)).length + (l.take at_1).length := by first | rfl | exact List.length_append | simp
   refine Wz ?_
   refine aZ ?_
   refine Rp ?_
   refine Az ((([] : List (Aa × TA)) ++ (l.take at_1)) ++ ([x] : List (Aa × TA))) rfl Gd underlying26 Av hox4 q0 (Bp.lit (xs := ([x] : List (Aa × TA))) Av) ⟨by first | omega | (simp only [List.length_append, List.length_nil, List.length_take, List.length_drop, List.length_cons]; omega), by first | omega | (simp only [List.length_append, List.length_nil, List.length_take, List.length_drop, List.length_cons]; omega)⟩ (n := (([] : List (Aa × TA)) ++ (l.take at_1)).length) (m := 1) (k := fun ax5 cx5 Bx5 hox5 => ?_)
   have hal5 : ((([] : List (Aa × TA)) ++ (l.take at_1)) ++ ([x] : List (Aa × TA))).length = (([] : List (Aa × TA)) ++ (l.take at_1)).length + 1 := by first | rfl | exact List.length_append | simp
   refine Wz ?_
   refine bA ?_
   refine Rp ?_
   refine Az (((([] : List (Aa × TA)) ++ (l.take at_1)) ++ ([x] : List (Aa × TA))) ++ (l.drop at_1)) rfl Gd underlying26 Av hox5 q0 (Bp.off bP at_1 l_c Ru) ⟨by first | omega | (simp only [List.length_append, List.length_nil, List.length_take, List.length_drop, List.length_cons]; omega), by first | omega | (simp only [List.length_append, List.length_nil, List.length_take, List.length_drop, List.length_cons]; omega)⟩ (n := ((([] : List (Aa × TA)) ++ (l.take at_1)) ++ ([x] : List (Aa × TA))).length) (m := (l.drop at_1).length) (k := fun ax6 cx6 Bx6 hox6 => ?_)
   have hal6 : (((([] : List (Aa × TA)) ++ (l.take at_1)) ++ ([x] : List (Aa × TA))) ++ (l.drop at_1)).length = ((([] : List (Aa × TA)) ++ (l.take at_1)) ++ ([x] : List (Aa × TA))).length + (l.drop at_1).length := by first | rfl | exact List.length_append | simp
   refine Wz ?_
   refine Vx ?_
   refine bF ?_
   refine Z96 ?_
   refine Gb ?_
   refine lL ?_
   refine bG ?_
   refine Ab results51 rK (fun w1 hw1 => ?_)
   exact ⟨ax6, cx6, Bx6, (rq ((((((hF.rn1 ((hF3.pos hq1).neg hq2)).pos hq4).neg hq5).neg hq12).neg hq13).neg hq14)), (Ba (L := Bx6) (hw1.perm (List.Perm.refl _)) rfl), (by rw [((((((hF.rn1 ((hF3.pos hq1).neg hq2)).pos hq4).neg hq5).neg hq12).neg hq13).neg hq14).eq]; exact hox6)⟩
  refine fQ ?_
  have hld6 : ((l.drop at_1).drop 1).length = (l.drop at_1).length - 1 := List.length_drop
  refine AM5 ?_
  refine tG ?_
  refine Xa ?_
  have hl7 : (l.take at_1).length = at_1 := by rw [List.length_take]; omega
  refine uA ?_
  refine Se Ag J5 (k := fun r4 hr4 => ?_)
  refine Se Ag z36 (k := fun r5 hr5 => ?_)
  refine tM ?_
  refine Ig ?_
  refine bE ?_
  refine Rq ?_
  refine Au rfl (fun hq8 => ?_) (fun hq8 => ?_)
  ·exfalso
   omega
  refine Bq ?_
  refine aZ ?_
  refine Rq ?_
  refine Au rfl (fun hq9 => ?_) (fun hq9 => ?_)
  ·exfalso
   omega
  refine Bq ?_
  refine bA ?_
  refine Rq ?_
  refine Au rfl (fun hq10 => ?_) (fun hq10 => ?_)
  ·exfalso
   omega
  refine Xi ?_
  refine AN9 ?_
  rintro w1_2 e1_2 w2_2 hw1_2 ⟨a1_2, c1_2, B1_2, he_2, hf_2, ho1_2⟩
  refine ⟨_, _, he_2, hw1_2.fresh hf_2, ?_⟩
  refine Xc ?_
  refine bE ?_
  refine Rp ?_
  refine Az (([] : List (Aa × TA)) ++ (l.take at_1)) rfl Gd underlying26 Av ho1_2 q0 ((Bp.of_base h_l).take at_1) ⟨by first | omega | (simp only [List.length_append, List.length_nil, List.length_take, List.length_drop, List.length_cons]; omega), by first | omega | (simp only [List.length_append, List.length_nil, List.length_take, List.length_drop, List.length_cons]; omega)⟩ (n := ([] : List (Aa × TA)).length) (m := (l.take at_1).length) (k := fun ax1 cx1 Bx1 hox1 => ?_)
  have hal1 : (([] : List (Aa × TA)) ++ (l.take at_1)).length = ([] : List (Aa × TA)).length + (l.take at_1).length := by first | rfl | exact List.length_append | simp
  refine Wz ?_
  refine aZ ?_
  refine Rp ?_
  refine Az ((([] : List (Aa × TA)) ++ (l.take at_1)) ++ ([x] : List (Aa × TA))) rfl Gd underlying26 Av hox1 q0 (Bp.lit (xs := ([x] : List (Aa × TA))) Av) ⟨by first | omega | (simp only [List.length_append, List.length_nil, List.length_take, List.length_drop, List.length_cons]; omega), by first | omega | (simp only [List.length_append, List.length_nil, List.length_take, List.length_drop, List.length_cons]; omega)⟩ (n := (([] : List (Aa × TA)) ++ (l.take at_1)).length) (m := 1) (k := fun ax2 cx2 Bx2 hox2 => ?_)
  have hal2 : ((([] : List (Aa × TA)) ++ (l.take at_1)) ++ ([x] : List (Aa × TA))).length = (([] : List (Aa × TA)) ++ (l.take at_1)).length + 1 := by first | rfl | exact List.length_append | simp
  refine Wz ?_
  refine bA ?_
  refine Rp ?_
  refine Az (((([] : List (Aa × TA)) ++ (l.take at_1)) ++ ([x] : List (Aa × TA))) ++ ((l.drop at_1).drop 1)) rfl Gd underlying26 Av hox2 q0 (Bp.off (Bp.off bP at_1 l_c Ru) 1 (l_c - at_1) Ru) ⟨by first | omega | (simp only [List.length_append, List.length_nil, List.length_take, List.length_drop, List.length_cons]; omega), by first | omega | (simp only [List.length_append, List.length_nil, List.length_take, List.length_drop, List.length_cons]; omega)⟩ (n := ((([] : List (Aa × TA)) ++ (l.take at_1)) ++ ([x] : List (Aa × TA))).length) (m := ((l.drop at_1).drop 1).length) (k := fun ax3 cx3 Bx3 hox3 => ?_)
  have hal3 : (((([] : List (Aa × TA)) ++ (l.take at_1)) ++ ([x] : List (Aa × TA))) ++ ((l.drop at_1).drop 1)).length = ((([] : List (Aa × TA)) ++ (l.take at_1)) ++ ([x] : List (Aa × TA))).length + ((l.drop at_1).drop 1).length := by first | rfl | exact List.length_append | simp
  refine Wz ?_
  refine Vx ?_
  refine bF ?_
  refine Z96 ?_
  refine Gb ?_
  refine lL ?_
  refine bG ?_
  refine Ab results51 rK (fun w1 hw1 => ?_)
  exact ⟨ax3, cx3, Bx3, (rq ((((((hF.rn1 ((hF3.pos hq1).neg hq2)).pos hq4).pos hq5).neg hq8).neg hq9).neg hq10)), (Ba (L := Bx3) (hw1.perm (List.Perm.refl _)) rfl), (by rw [((((((hF.rn1 ((hF3.pos hq1).neg hq2)).pos hq4).pos hq5).neg hq8).neg hq9).neg hq10).eq]; exact hox3)⟩

end Go.Proofs.YtopjaeoklkpcpaaGreatDoor.Jd

namespace Go.Proofs.YtopjaeoklkpcpaaGreatDoor.Jd
open Go.Proofs.Tryz
set_option linter.unusedVariables false
set_option linter.unusedSimpArgs false
set_option maxRecDepth 10000
theorem vW : El 3 = [1, 2, 3, 4, 5, 6, 7, 8, 9, 10] := by decide
theorem vX : El 2 = [2, 3, 4, 8, 9, 10] := by decide
theorem vY : El 1 = [9, 10] := by decide
theorem vZ {n : Int} (h3 : n ≠ 3) (h2 : n ≠ 2) (h1 : n ≠ 1) : El n = [] := by
  have : Nd n = 0 := by unfold Nd; rw [if_neg h3, if_neg h2, if_neg h1]
  unfold El
  rw [this]
  decide
theorem Yq (n v : Int) : ∀ f i, (El n).length < i + f → i ≤ (El n).length → (Bn (Qc n v f i) (fun r => r) (fun _ => false) = true ↔ v ∈ (El n).drop i)
  | 0, i, h1, h2 => by omega
  | f + 1, i, h1, h2 => by
    unfold Qc
    by_cases hi : i < (El n).length
    · rw [if_pos z2, Fe hi]
      by_cases hv : (El n).getD i default = v
      · rw [if_pos hv, hv]; simp [Bn]
      · rw [if_neg hv, Yq n v f (i + 1) z2 z2, List.mem_cons]
        exact ⟨.inr, fun h => h.resolve_left fun e => hv e.symm⟩
    · rw [if_neg z2, List.drop_eq_nil_of_le z2]; simp [Bn]
theorem wA (n v : Int) : Od n v = true ↔ v ∈ El n := Yq n v _ 0 z2 z2
theorem kO {n v : Int} (h : Od n v = true) : 1 ≤ v ∧ v ≤ 10 := by
  rw [wA] at h
  by_cases h3 : n = 3
  · subst h3; rw [vW] at h; simp at h; omega
  by_cases h2 : n = 2
  · subst h2; rw [vX] at h; simp at h; omega
  by_cases h1 : n = 1
  · subst h1; rw [vY] at h; simp at h; omega
  rw [vZ h3 h2 h1] at h; cases h
/-- What must be of a tenant in a registry of a Seq. -/
structure Qf (seq : Int) (t : Aa) : Prop where
  name : Hk t.name = true
  version : 1 ≤ t.version ∧ t.version ≤ seq
  state : 1 ≤ t.state ∧ t.state ≤ 3
  deadline : 0 ≤ t.deadline ∧ t.deadline ≤ 1000000000000
  drains : t.deadline = 0 ∨ t.state = 3
  rules : Ik t.rules = true
  creds : Kd t.creds = true
/-- Which registries are right. -/
structure Ev (r : Ac) : Prop where
  slots : Ep r.slots = true
  seq : 0 ≤ r.seq ∧ r.seq ≤ 1000000000000
  hs : r.l.map Aa.handle = Dx r.slots
  names : (r.l.map Aa.name).Nodup
  ok : ∀ t ∈ r.l, Qf r.seq t
theorem iP {seq : Int} {t : Aa} : Qf seq t ↔ Ix (t, seq) = true ∧ Iy (t, seq) = true ∧ Ng (t, seq) = true := by
  unfold Ix Iy Ng
  constructor
  · rintro ⟨h1, h2, h3, h4, h5, h6, h7⟩
    refine ⟨?_, ?_, ?_⟩
    · rw [if_pos h2.1]; simpa using h2.2
    · simp only [h3.1, h3.2, h4.1, h4.2, if_true]
      split
      · rfl
      · simpa using h5.resolve_left Ey
    · simp only [h1, h6, h7, if_true]
  · rintro ⟨h1, h2, h3⟩
    simp only at h1 h2 h3
    have a1 : 1 ≤ t.version ∧ t.version ≤ seq := by
      split at h1
      · exact ⟨by assumption, by simpa using h1⟩
      · cases h1
    have a2 : (1 ≤ t.state ∧ t.state ≤ 3) ∧ (0 ≤ t.deadline ∧ t.deadline ≤ 1000000000000) ∧ (t.deadline = 0 ∨ t.state = 3) := by
      repeat' split at h2
      all_goals first | (cases h2; done) | skip
      · exact ⟨⟨by assumption, by assumption⟩, ⟨by assumption, by assumption⟩, .inl Ey⟩
      · exact ⟨⟨by assumption, by assumption⟩, ⟨by assumption, by assumption⟩, .inr (by simpa using h2)⟩
    have a3 : Hk t.name = true ∧ Ik t.rules = true ∧ Kd t.creds = true := by
      repeat' split at h3
      all_goals first | (cases h3; done) | skip
      exact ⟨by assumption, by assumption, h3⟩
    exact ⟨a3.1, a1, a2.1, a2.2.1, a2.2.2, a3.2.1, a3.2.2⟩
theorem Pf (r : Ac) : ∀ n i (acc : List Ap), r.l.length < i + n → i ≤ r.l.length → (Gz (Mh r n i acc) (fun r => r) (fun _ _ => true) = true ↔ (∀ k, i ≤ k → k < r.l.length → (r.l.getD k default).handle = (Dx r.slots).getD k default ∧ Qf r.seq (r.l.getD k default)) ∧ (∀ t ∈ r.l.drop i, t.name ∉ acc) ∧ ((r.l.drop i).map Aa.name).Nodup)
  | 0, i, acc, h1, h2 => by omega
  | n + 1, i, acc, h1, h2 => by
    unfold Mh
    by_cases hi : i < r.l.length
    · rw [if_pos z2, Fe hi]
      generalize ht : r.l.getD i default = t
      generalize hh : (Dx r.slots).getD i default = h
      have hbad : ¬ (t.handle = h ∧ Qf r.seq t) → ¬ (∀ k, i ≤ k → k < r.l.length → (r.l.getD k default).handle = (Dx r.slots).getD k default ∧ Qf r.seq (r.l.getD k default)) := fun hn ha => hn (by
        have := ha i (Nat.le_refl _) hi
        rwa [ht, hh] at this)
      by_cases hs : t.handle.slot = h.slot ∧ t.handle.gen = h.gen
      · have he : t.handle = h := by
          obtain ⟨e1, e2⟩ := hs
          cases hth : t.handle; cases h; simp_all
        rw [if_neg (by simpa using hs)]
        by_cases hm : t.name ∈ acc
        · rw [if_pos hm]
          simp only [Gz]
          exact ⟨nofun, fun ⟨_, h3, _⟩ => absurd hm (h3 t List.mem_cons_self)⟩
        · rw [if_neg hm]
          by_cases hT : Qf r.seq t
          · obtain ⟨c1, c2, c3⟩ := iP.1 hT
            rw [c1, c2, c3]
            simp only [Bool.not_true, Bool.false_eq_true, if_false]
            rw [Pf r n (i + 1) _ z2 z2, List.map_cons, List.nodup_cons]
            constructor
            · rintro ⟨g1, g2, g3⟩
              refine ⟨fun k hk hl => ?_, fun u hu => ?_, ?_, g3⟩
              · by_cases e : k = i
                · subst e; rw [ht, hh]; exact ⟨he, hT⟩
                · exact g1 k z2 hl
              · rcases List.mem_cons.1 hu with rfl | hu
                · exact hm
                · exact fun hc => g2 u hu (List.mem_append_left _ hc)
              · intro hc
                obtain ⟨u, hu, e⟩ := List.mem_map.1 hc
                exact g2 u hu (List.mem_append_right _ (by simp [e]))
            · rintro ⟨g1, g2, g3, g4⟩
              refine ⟨fun k hk hl => g1 k z2 hl, fun u hu hc => ?_, g4⟩
              rcases List.mem_append.1 hc with hc | hc
              · exact g2 u (List.mem_cons_of_mem _ hu) hc
              · exact g3 (List.mem_map.2 ⟨u, hu, by simpa using hc⟩)
          · have hb := hbad fun h => hT h.2
            have hx : ¬ (Ix (t, r.seq) = true ∧ Iy (t, r.seq) = true ∧ Ng (t, r.seq) = true) := fun h => hT (iP.2 h)
            cases c1 : Ix (t, r.seq)
            · simp only [Bool.not_false, if_true, Gz]; exact ⟨nofun, fun h => absurd h.1 hb⟩
            cases c2 : Iy (t, r.seq)
            · simp only [Bool.not_false, Bool.not_true, Bool.false_eq_true, if_true, if_false, Gz]; exact ⟨nofun, fun h => absurd h.1 hb⟩
            cases c3 : Ng (t, r.seq)
            · simp only [Bool.not_false, Bool.not_true, Bool.false_eq_true, if_true, if_false, Gz]; exact ⟨nofun, fun h => absurd h.1 hb⟩
            exact absurd ⟨c1, c2, c3⟩ hx
      · rw [if_pos (by simpa using hs)]
        simp only [Gz]
        exact ⟨nofun, fun hc => absurd hc.1 (hbad fun h2 => hs (by rw [h2.1]; exact ⟨rfl, rfl⟩))⟩
    · rw [if_neg z2, List.drop_eq_nil_of_le z2]
      simp only [Gz, List.map_nil, List.nodup_nil, and_true, List.not_mem_nil, false_implies, implies_true, true_and]
      exact ⟨fun _ k h3 h4 => by omega, fun _ => trivial⟩
theorem Qg {α β : Type} [Inhabited α] [Inhabited β] {f : α → β} {xs : List α} {ys : List β} (hl : ys.length = xs.length) : (∀ k, k < xs.length → f (xs.getD k default) = ys.getD k default) ↔ xs.map f = ys := by
  constructor
  · intro h
    refine List.ext_getElem (by simp [hl]) fun k h1 h2 => ?_
    have := h k (by simpa using h1)
    simpa [List.getD, show k < xs.length by simpa using h1, h2] using this
  · rintro rfl k hk
    simp [List.getD, hk]
theorem Nk {r : Ac} : Ga r = true ↔ Ev r := by
  unfold Ga
  constructor
  · intro h
    split at h
    · cases h
    rename_i h1
    split at h
    · cases h
    split at h
    · cases h
    split at h
    · cases h
    rename_i h2 h3 h4
    obtain ⟨g1, _, g3⟩ := (Pf r _ 0 [] z2 z2).1 h
    refine ⟨by simpa using h1, ⟨by omega, by omega⟩, (Qg z2).1 fun k hk => (g1 k z2 hk).1, by simpa using g3, fun t ht => ?_⟩
    obtain ⟨k, hk, rfl⟩ := List.getElem_of_mem ht
    have := (g1 k z2 hk).2
    simpa [List.getD, hk] using this
  · rintro ⟨h1, h2, h3, h4, h5⟩
    have hl : (Dx r.slots).length = r.l.length := by rw [← h3]; simp
    rw [h1, if_neg Hb, if_neg z2, if_neg z2, if_neg z2]
    refine (Pf r _ 0 [] z2 z2).2 ⟨fun k _ hk => ⟨(Qg hl).2 h3 k hk, ?_⟩, fun t _ => by simp, by simpa using h4⟩
    refine h5 _ ?_
    rw [List.getD_eq_getElem?_getD, List.getElem?_eq_getElem hk]; exact List.getElem_mem hk
theorem Tc {r : Ac} (h : Ga r = true) : r.l.length ≤ 64 ∧ r.slots.gens.length ≤ 64 ∧ r.slots.used.length ≤ 64 ∧ r.slots.free.length ≤ 64 ∧ 0 ≤ r.seq ∧ r.seq ≤ 1000000000000 := by
  have h' := Nk.1 h
  have e := congrArg List.length h'.hs
  rw [List.length_map] at e
  have := D4 r.slots
  have h3 := Sx h'.slots
  exact ⟨by omega, by omega, by omega, by omega, h'.seq⟩
theorem wB {r : Ac} (h : Ga r = true) {i : Nat} (hi : i < r.l.length) : Qf r.seq (r.l.getD i default) := by
  refine (Nk.1 h).ok _ ?_
  rw [List.getD_eq_getElem?_getD, List.getElem?_eq_getElem hi]; exact List.getElem_mem hi
theorem Nl {r : Ac} (h : Ga r = true) {i : Nat} (hi : i < r.l.length) : 1 ≤ (r.l.getD i default).version ∧ (r.l.getD i default).version ≤ r.seq := (wB h hi).version
end Go.Proofs.YtopjaeoklkpcpaaGreatDoor.Jd

namespace Go.Proofs.YtopjaeoklkpcpaaGreatDoor.Jd
open Go.Proofs.Tryz
open Go.Proofs
open Go.RowKit (Below)
set_option maxRecDepth 100000
set_option maxHeartbeats 8000000
set_option linter.unusedVariables false
set_option linter.unusedSimpArgs false
theorem cG : Bo Tryz.prog 36 0 0 := fun r k w => by simp [Instr.fieldAt, Instr.sureAddr, fieldPlace, Bc]
theorem cH : Bo Tryz.prog 36 1 1 := fun r k w => by simp [Instr.fieldAt, Instr.sureAddr, fieldPlace, Bc]
theorem sL : Bo Tryz.prog 36 2 2 := fun r k w => by simp [Instr.fieldAt, Instr.sureAddr, fieldPlace, Bc]
theorem W7 : Bo Tryz.prog 36 3 3 := fun r k w => by simp [Instr.fieldAt, Instr.sureAddr, fieldPlace, Bc]
theorem W8 : Bo Tryz.prog 36 4 4 := fun r k w => by simp [Instr.fieldAt, Instr.sureAddr, fieldPlace, Bc]
theorem sM : Bo Tryz.prog 36 5 9 := fun r k w => by simp [Instr.fieldAt, Instr.sureAddr, fieldPlace, Bc]
theorem kP : Bo Tryz.prog 36 6 10 := fun r k w => by simp [Instr.fieldAt, Instr.sureAddr, fieldPlace, Bc]
theorem W9 : Bo Tryz.prog 36 7 11 := fun r k w => by simp [Instr.fieldAt, Instr.sureAddr, fieldPlace, Bc]
theorem sN : Bo Tryz.prog 44 0 0 := fun r k w => by simp [Instr.fieldAt, Instr.sureAddr, fieldPlace, Bc]
theorem cI : Bo Tryz.prog 97 0 0 := fun r k w => by simp [Instr.fieldAt, Instr.sureAddr, fieldPlace, Bc]
theorem Ul : Bo Tryz.prog 97 1 9 := fun r k w => by simp [Instr.fieldAt, Instr.sureAddr, fieldPlace, Bc]
theorem kQ : Bo Tryz.prog 97 2 21 := fun r k w => by simp [Instr.fieldAt, Instr.sureAddr, fieldPlace, Bc]
theorem AS8 : Hq Tryz.prog 44 [(0, 1), (1, 1), (2, 2), (4, 1), (5, 1)] := ⟨_, fun w => runUnderlying44 w, fun w => by simp⟩
theorem AA8 : Hq Tryz.prog 97 [(0, 9), (9, 12), (21, 1)] := ⟨_, fun w => runUnderlying97 w, fun w => by simp⟩
theorem AJ4 : Hq Tryz.prog 120 [(0, 1)] := ⟨_, fun w => runUnderlying120 w, fun w => by simp⟩

theorem kR (w : World) {s0a : Option Addr} {s0n : Nat} {s0c : Nat} {s1a : Option Addr} {s1n : Nat} {s1c : Nat} {s2a : Option Addr} {s2n : Nat} {s2c : Nat} {q_ : Int} {l_a : Option Addr} {l_c : Nat} {xs : List Aa} {ts : List TA} {x : Aa} {v : TA} (h : Rm w Bu 8 DT l_a xs ts) (n : xs.length ≤ 1000) (k : xs.length ≤ l_c) :
  Calls Tryz.prog 51 (List.toArray [(Value.agg [(vs s0a s0n s0c), (vs s1a s1n s1c), (vs s2a s2n s2c), (vs l_a xs.length l_c), (vi q_)].toArray), (Value.agg [(vi x.handle.slot), (vi x.handle.gen), (vt x.name), (vi x.state), (vi x.version), (vs v.ra x.rules.length v.rc), (vs v.ca x.creds.length v.cc), (vi x.deadline)].toArray)]) w fun e w2 => ∃ a1 : Option Addr, ∃ c1 : Nat, ∃ B1 : Aj, e = .returned (Value.agg [(vs s0a s0n s0c), (vs s1a s1n s1c), (vs s2a s2n s2c), (vs a1 (Fp xs x).length c1), (vi q_)].toArray) ∧ Dh w w2 B1 ∧ Bi Bu 8 52 a1 c1 B1 (List.zip (Fp xs x) (Wq xs ts x v)) := by
 have hz := Br h.1
 have h2 := W6 w (s0a := s0a) (s0n := s0n) (s0c := s0c) (s1a := s1a) (s1n := s1n) (s1c := s1c) (s2a := s2a) (s2n := s2n) (s2c := s2c) (q_ := q_) (l_a := l_a) (l_c := l_c) (l := List.zip xs ts) (x := (x, v)) h.2.1 (by rw [hz]; exact n) (by rw [hz]; exact k)
 rw [hz, F6 x v h.1, Br (aP xs ts x v h.1)] at h2
 exact h2
theorem wC (w : World) {a : Option Addr} {c : Nat} {xs : List Aa} {ts : List TA} (h : Rm w Bu 8 DT a xs ts) (n : xs.length ≤ 1000) :
  Calls Tryz.prog 115 (List.toArray [(vs a xs.length c)]) w fun e w2 => ∃ a1 : Option Addr, ∃ c1 : Nat, ∃ B1 : Aj, e = .returned (vs a1 xs.length c1) ∧ Dh w w2 B1 ∧ Bi Bu 8 52 a1 c1 B1 (List.zip xs ts) := by
 have hz := Br h.1
 have h2 := qK w (s_a := a) (s_c := c) (s := List.zip xs ts) h.2.1 (by rw [hz]; omega)
 rw [hz] at h2
 exact h2
theorem X0 (w : World) {a : Option Addr} {c : Nat} {B : Aj} {xs : List Aa} {ts : List TA} {i j : Int} (ho : Bi Bu 8 52 a c B (List.zip xs ts)) (hb : ∀ p ∈ B, w.heap[p.1]? = some p.2) (hl : ts.length = xs.length) (n : xs.length ≤ 1000) (hi : 0 ≤ i ∧ i < j ∧ j ≤ xs.length) :
  Calls Tryz.prog 114 (List.toArray [(vs a xs.length c), (vi i), (vi j)]) w fun e w2 => ∃ a1 : Option Addr, ∃ c1 : Nat, ∃ B1 : Aj, e = .returned (vs a1 (delL xs i.toNat j.toNat).length c1) ∧ Tr w w2 B B1 ∧ Bi Bu 8 52 a1 c1 B1 (List.zip (delL xs i.toNat j.toNat) (delL ts i.toNat j.toNat)) := by
 have hz := Br hl
 have h2 := nR w (s_a := a) (s_c := c) (s_B := B) (s := List.zip xs ts) (i := i) (j := j) ho hb (by rw [hz]; omega) (by rw [hz]; exact hi)
 have hd : (delL ts i.toNat j.toNat).length = (delL xs i.toNat j.toNat).length := by rw [Gr z2 z2, Gr z2 z2, hl]
 rw [hz, F7 hl, Br hd] at h2
 exact h2

end Go.Proofs.YtopjaeoklkpcpaaGreatDoor.Jd

namespace Go.Proofs.YtopjaeoklkpcpaaGreatDoor.Jd
open Go.Proofs.Tryz
open Go.Proofs
open Go.RowKit (Below)
set_option maxRecDepth 100000
set_option maxHeartbeats 8000000
set_option linter.unusedVariables false
set_option linter.unusedSimpArgs false

theorem H0 (w : World) {l_a : Option Addr} {l_c : Nat} {l : List Bf} (h_l : Sl w Et 5 l_a l) (k_l : l.length ≤ l_c) : Calls Tryz.prog 37 (List.toArray [(vs l_a l.length l_c)]) w fun e w2 => ∃ a1 : Option Addr, ∃ c1 : Nat, ∃ B1 : Aj, e = .returned (vs a1 ((Jj l).length) c1) ∧ Dh w w2 B1 ∧ Bi Et 5 34 a1 c1 B1 (Jj l) ∧ (Jj l).length ≤ 18 := by
 have hF := Is.refl (Jj l)
 refine enter func37 ntmps37 (h := ?_)
 refine Ut ?_
 refine Pk ?_
 refine Zh ?_
 refine Af aD (k := ?_)
 have hl1 : (l.take (min l.length 18)).length = (min l.length 18) := by rw [List.length_take]; first | (split <;> omega) | omega
 refine Af (Fz (l.take (min l.length 18)).length runUnderlying49 (fun w => ⟨_, sizeOf34 w⟩) (hm := z2) (hi := by first | (split <;> omega) | omega)) (k := ?_)
 refine Az (l.take (min l.length 18)) (List.nil_append _) Vk underlying49 Ck Bi.nil (List.Perm.refl _) ((Bp.of_base h_l).take (min l.length 18)) ⟨by omega, by omega⟩ (n := 0) (m := (l.take (min l.length 18)).length) (k := fun ax1 cx1 Bx1 hox1 => ?_)
 refine Z6 ?_
 refine Ab results37 z1 (fun w1 hw1 => ?_)
 exact ⟨ax1, cx1, Bx1, (rq hF), (Ba (L := Bx1) (hw1.perm (List.Perm.refl _)) rfl.symm), (by unfold Jj; exact hox1), (by unfold Jj; rw [List.length_take]; omega)⟩

theorem X1 (w : World) {l_a : Option Addr} {l_c : Nat} {l : List Bw} (h_l : Sl w Fq 4 l_a l) : Calls Tryz.prog 38 (List.toArray [(vs l_a l.length l_c)]) w fun e w2 => ∃ a1 : Option Addr, ∃ c1 : Nat, ∃ B1 : Aj, e = .returned (vs a1 ((Tb l).length) c1) ∧ Dh w w2 B1 ∧ Bi Fq 4 62 a1 c1 B1 (Tb l) ∧ (Tb l).length ≤ 6 := by
 have hF := Is.refl (Tb l)
 refine enter func38 ntmps38 (h := ?_)
 refine cR ?_
 refine Rw ?_
 refine Pn ?_
 refine Ny (σ1 := Nat) (σ2 := List Bw) (σ3 := Option Addr) (σ4 := Nat) (σ5 := Aj) (σ6 := Nat) (fun n_3 out_1 out_1a out_1c out_1B i_2 => (out_1B ++ [])) (fun n_3 out_1 out_1a out_1c out_1B i_2 => [(0, (vs l_a l.length l_c)), (2, (vs none 0 0)), (3, (vs out_1a out_1.length out_1c)), (4, (vi ((i_2 : Nat) : Int)))]) (fun n_3 out_1 out_1a out_1c out_1B i_2 => 6 - i_2 < n_3 ∧ Is (Qz l (6 + 1) [] 0) (Qz l n_3 out_1 i_2) ∧ Bi Fq 4 62 out_1a out_1c out_1B out_1 ∧ out_1.length ≤ i_2 ∧ i_2 ≤ 6 ∧ i_2 ≤ l.length) (fun n_3 out_1 out_1a out_1c out_1B i_2 => n_3) (6 + 1) ([]) none 0 ([]) 0 ?_ se (List.Perm.refl _) ?_
 ·exact ⟨Nat.lt_succ_self _, Is.refl _, Bi.nil, Kh, Kh, Kh⟩
 ·rintro (_ | n_3) out_1 out_1a out_1c out_1B i_2 ⟨hm5, hF4, hout_1, hi6, hi7, hi8⟩
  ·omega
  refine cU ?_
  refine cX ?_
  refine Rx ?_
  refine Ao 10 rfl (fun hq1 => ?_) (fun hq1 => ?_)
  rotate_left
  ·refine Ae 2 rfl ?_
   refine Qh ?_
   refine tF ?_
   refine bF ?_
   refine Ab results38 z1 (fun w1 hw1 => ?_)
   exact ⟨out_1a, out_1c, out_1B, (rq (hF.rn2 (hF4.neg hq1))), (Ba (L := out_1B) (hw1.perm (List.Perm.refl _)) rfl.symm), (by rw [(hF.rn2 (hF4.neg hq1)).eq]; exact hout_1), (rl (hF.rn2 (hF4.neg hq1)))⟩
  refine Q0 ?_
  refine xB ?_
  refine Au rfl (fun hq2 => ?_) (fun hq2 => ?_)
  rotate_left
  ·refine Ca ?_
   refine bF ?_
   refine Ab results38 z1 (fun w1 hw1 => ?_)
   exact ⟨out_1a, out_1c, out_1B, (rq (hF.rn2 ((hF4.pos hq1).neg hq2))), (Ba (L := out_1B) (hw1.perm (List.Perm.refl _)) rfl.symm), (by rw [(hF.rn2 ((hF4.pos hq1).neg hq2)).eq]; exact hout_1), (rl (hF.rn2 ((hF4.pos hq1).neg hq2)))⟩
  refine fJ ?_
  refine Pk ?_
  refine Af (Cb (n := l.length) runUnderlying50 sizeOf62 i_2 bP (gD z3) Jv) (k := ?_)
  refine Af (Cn isAgg62 sizeOf62 i_2 bP (gD z3)) (k := ?_)
  refine Ah Ag z60 (k := fun r1 hr1 => ?_)
  refine lY ?_
  refine Uw ?_
  refine Af (Ai Ug) (k := ?_)
  refine jR ?_
  refine Af (Ai Ug) (k := ?_)
  refine jR ?_
  refine yO ?_
  refine Af aD (k := ?_)
  refine Af (dN (s := ((l.getD i_2 default).key)) (min ((l.getD i_2 default).key).length 65) runUnderlying9 z2 (hj := by split <;> omega)) (k := ?_)
  have hsb2 : (((l.getD i_2 default).key).take (min ((l.getD i_2 default).key).length 65)).length = (min ((l.getD i_2 default).key).length 65) := by first | omega | (simp only [List.length_take, List.length_drop, List.length_cons, List.length_nil] <;> omega)
  refine Af (Ai Ug) (k := ?_)
  refine Gw (Bt (l' := [_, _, _, _]) sizeOf9) (k := ?_)
  refine Z0 ?_
  refine fQ ?_
  refine yN ?_
  refine Ah Ag z74 (k := fun r2 hr2 => ?_)
  refine Az (out_1 ++ ([(Bw.mk ((l.getD i_2 default).id) (((l.getD i_2 default).key).take (min ((l.getD i_2 default).key).length 65)) ((l.getD i_2 default).frm) ((l.getD i_2 default).to))] : List Bw)) rfl sC underlying50 Ed hout_1 (qb (qb q0)) (Bp.lit (xs := ([(Bw.mk ((l.getD i_2 default).id) (((l.getD i_2 default).key).take (min ((l.getD i_2 default).key).length 65)) ((l.getD i_2 default).frm) ((l.getD i_2 default).to))] : List Bw)) Ed) ⟨by omega, by omega⟩ (n := out_1.length) (m := 1) (k := fun ax1 cx1 Bx1 hox1 => ?_)
  have hal1 : (out_1 ++ ([(Bw.mk ((l.getD i_2 default).id) (((l.getD i_2 default).key).take (min ((l.getD i_2 default).key).length 65)) ((l.getD i_2 default).frm) ((l.getD i_2 default).to))] : List Bw)).length = out_1.length + 1 := by first | rfl | exact List.length_append | simp
  refine Wz ?_
  refine Xb ?_
  refine Fk _ (sa (sd (sd sz))) ?_
  refine Cs ?_
  refine fP ?_
  exact Kt n_3 (out_1 ++ ([(Bw.mk ((l.getD i_2 default).id) (((l.getD i_2 default).key).take (min ((l.getD i_2 default).key).length 65)) ((l.getD i_2 default).frm) ((l.getD i_2 default).to))] : List Bw)) ax1 cx1 Bx1 (i_2 + 1) ⟨by omega, ((hF4.pos hq1).pos hq2), hox1, z2, z2, z2⟩ (Nat.lt_succ_self _) se (List.Perm.refl _)

end Go.Proofs.YtopjaeoklkpcpaaGreatDoor.Jd

namespace Go.Proofs.YtopjaeoklkpcpaaGreatDoor.Jd.SlT
open Go.Proofs.Tryz
open Go.Proofs
open Go.RowKit (Below)
set_option maxRecDepth 100000
set_option linter.unusedVariables false
set_option linter.unusedSimpArgs false
def H3 (n : Int) : Bool := decide (n < 0 ∨ 1000000000 < n)
def AA9 (gl : List Int) (ul : List Bool) : Bool := decide (1 ≤ gl.length ∧ gl.length ≤ 64 ∧ ul.length = gl.length)
theorem Fh {α : Type} [Inhabited α] {xs : List α} {k : Nat} (h : k < xs.length) : xs.getD k default = xs[k] := by simp [List.getD, h]
theorem take_succ' {α : Type} [Inhabited α] {xs : List α} {k : Nat} (h : k < xs.length) : xs.take (k + 1) = xs.take k ++ [xs.getD k default] := by
  rw [List.take_add_one, List.getElem?_eq_getElem h, Fh h]; rfl
def usedIx : Nat → List Bool → List Nat
  | _, [] => []
  | i, true :: r => i :: usedIx (i + 1) r
  | i, false :: r => usedIx (i + 1) r
def cntU (l : List Bool) : Nat := (usedIx 0 l).length
theorem Pg : ∀ (l : List Bool) (i : Nat), (usedIx i l).length ≤ l.length
  | [], i => by simp [usedIx]
  | true :: r, i => by have := Pg r (i + 1); simp [usedIx]; omega
  | false :: r, i => by have := Pg r (i + 1); simp [usedIx]; omega
def freeD (ul : List Bool) (fl : List Int) : Prop := (∀ x ∈ fl, 0 ≤ x ∧ x < ul.length ∧ ul.getD x.toNat default = false) ∧ fl.Nodup
instance (ul : List Bool) (fl : List Int) : Decidable (freeD ul fl) := inferInstanceAs (Decidable (_ ∧ _))
def rightB (gl : List Int) (ul : List Bool) (fl : List Int) : Bool := AA9 gl ul && !(gl.any H3) && decide (freeD ul fl ∧ (gl.length : Int) - (cntU ul : Int) = (fl.length : Int))
def hnd (gl : List Int) (ul : List Bool) : List (Int × Int) := (usedIx 0 ul).map fun i : Nat => ((i : Int), gl.getD i default)
def allD (gl : List Int) (ul : List Bool) (fl : List Int) : List (Int × Int) := if rightB gl ul fl then hnd gl ul else []
theorem all_no {gl : List Int} {ul : List Bool} {fl : List Int} (h : rightB gl ul fl = false) : allD gl ul fl = [] := by simp [allD, h]
theorem X2 {gl : List Int} {ul : List Bool} {fl : List Int} : (allD gl ul fl).length ≤ ul.length := by
  have := Pg ul 0
  unfold allD
  split
  · simpa [hnd] using this
  · simp
abbrev qL := List Int × List Bool × List Int
def Ge (fl : List Int) : Int := fl.getD ((fl.length : Int) - 1).toNat default
def takeD (gl : List Int) (ul : List Bool) (fl : List Int) : qL × (Int × Int) × Int :=
  if rightB gl ul fl then
    if fl.length = 0 ∨ gl.getD (Ge fl).toNat default = 1000000000 then (([], [], []), (0, 0), 92)
    else ((gl.set (Ge fl).toNat (gl.getD (Ge fl).toNat default + 1), ul.set (Ge fl).toNat true, fl.take (fl.length - 1)), (Ge fl, gl.getD (Ge fl).toNat default + 1), 0)
  else (([], [], []), (0, 0), 90)
theorem sO {gl : List Int} {ul : List Bool} {fl : List Int} (h : rightB gl ul fl = false) : takeD gl ul fl = (([], [], []), (0, 0), 90) := by simp [takeD, h]
theorem Zw {gl : List Int} {ul : List Bool} {fl : List Int} (h : rightB gl ul fl = true) (h1 : fl.length = 0 ∨ gl.getD (fl.getD ((fl.length : Int) - 1).toNat default).toNat default = 1000000000) : takeD gl ul fl = (([], [], []), (0, 0), 92) := by
  unfold takeD; rw [if_pos h]; exact if_pos h1
theorem nS {gl : List Int} {ul : List Bool} {fl : List Int} (h : rightB gl ul fl = true) (h1 : fl.length ≠ 0) (h2 : ¬ gl.getD (fl.getD ((fl.length : Int) - 1).toNat default).toNat default = 1000000000) :
    takeD gl ul fl = ((gl.set (Ge fl).toNat (gl.getD (Ge fl).toNat default + 1), ul.set (Ge fl).toNat true, fl.take (fl.length - 1)), (Ge fl, gl.getD (Ge fl).toNat default + 1), 0) := by
  unfold takeD; rw [if_pos h]; exact if_neg (fun hh => hh.elim h1 h2)
theorem rightB_iff {gl : List Int} {ul : List Bool} {fl : List Int} : rightB gl ul fl = true ↔ (1 ≤ gl.length ∧ gl.length ≤ 64 ∧ ul.length = gl.length) ∧ (∀ x ∈ gl, 0 ≤ x ∧ x ≤ 1000000000) ∧ freeD ul fl ∧ (gl.length : Int) - (cntU ul : Int) = (fl.length : Int) := by
  simp only [rightB, Bool.and_eq_true, AA9, decide_eq_true_eq, Bool.not_eq_true', List.any_eq_false, H3]
  constructor
  · rintro ⟨⟨h1, h2⟩, h3, h4⟩
    exact ⟨h1, fun x hx => by have := h2 x hx; omega, h3, h4⟩
  · rintro ⟨h1, h2, h3, h4⟩
    exact ⟨⟨h1, fun x hx => by have := h2 x hx; omega⟩, h3, h4⟩
theorem Ws {gl : List Int} {ul : List Bool} {fl : List Int} (h : rightB gl ul fl = true) (h1 : fl.length ≠ 0) :
    0 ≤ fl.getD ((fl.length : Int) - 1).toNat default ∧ fl.getD ((fl.length : Int) - 1).toNat default < gl.length ∧ gl.length = ul.length ∧ 0 ≤ gl.getD (fl.getD ((fl.length : Int) - 1).toNat default).toNat default ∧ gl.getD (fl.getD ((fl.length : Int) - 1).toNat default).toNat default ≤ 1000000000 := by
  obtain ⟨⟨g1, g2, g3⟩, h2, h3, _⟩ := rightB_iff.1 h
  have hlt : ((fl.length : Int) - 1).toNat < fl.length := by omega
  have hm : fl.getD ((fl.length : Int) - 1).toNat default ∈ fl := by rw [Fh hlt]; exact List.getElem_mem hlt
  obtain ⟨c1, c2, _⟩ := h3.1 _ hm
  have hlt2 : (fl.getD ((fl.length : Int) - 1).toNat default).toNat < gl.length := by omega
  have := h2 (gl.getD (fl.getD ((fl.length : Int) - 1).toNat default).toNat default) (by rw [Fh hlt2]; exact List.getElem_mem hlt2)
  exact ⟨c1, by omega, by omega, this⟩
theorem Im {xs : List Int} {m : Nat} {v : Int} (h : m < xs.length) : (xs.set m v).getD m default = v := by simp [List.getD, h]
def giveD (gl : List Int) (ul : List Bool) (fl : List Int) (h1 h2 : Int) : qL × Int :=
  if rightB gl ul fl then if (h1, h2) ∈ allD gl ul fl then ((gl, ul.set h1.toNat false, fl ++ [h1]), 0) else (([], [], []), 91) else (([], [], []), 90)
theorem give_yes {gl : List Int} {ul : List Bool} {fl : List Int} {h1 h2 : Int} (h : rightB gl ul fl = true) (hv : (h1, h2) ∈ allD gl ul fl) : giveD gl ul fl h1 h2 = ((gl, ul.set h1.toNat false, fl ++ [h1]), 0) := by simp [giveD, h, hv]
theorem Rb : ∀ (l : List Bool) (i j : Nat), j ∈ usedIx i l ↔ i ≤ j ∧ l[j - i]? = some true
  | [], i, j => by simp [usedIx]
  | true :: r, i, j => by
    simp only [usedIx, List.mem_cons, Rb r]
    constructor
    · rintro (rfl | ⟨h1, h2⟩)
      · simp
      · refine ⟨by omega, ?_⟩
        rw [show j - i = (j - (i + 1)) + 1 by omega]; simpa using h2
    · rintro ⟨h1, h2⟩
      rcases Nat.eq_or_lt_of_le h1 with e | h3
      · exact .inl e.symm
      · refine .inr ⟨h3, ?_⟩
        rw [show j - i = (j - (i + 1)) + 1 by omega] at h2; simpa using h2
  | false :: r, i, j => by
    simp only [usedIx, Rb r]
    constructor
    · rintro ⟨h1, h2⟩
      refine ⟨by omega, ?_⟩
      rw [show j - i = (j - (i + 1)) + 1 by omega]; simpa using h2
    · rintro ⟨h1, h2⟩
      rcases Nat.eq_or_lt_of_le h1 with e | h3
      · subst e; simp at h2
      · refine ⟨h3, ?_⟩
        rw [show j - i = (j - (i + 1)) + 1 by omega] at h2; simpa using h2
theorem X3 {gl : List Int} {ul : List Bool} {p q : Int} : (p, q) ∈ hnd gl ul ↔ 0 ≤ p ∧ ul[p.toNat]? = some true ∧ gl.getD p.toNat default = q := by
  simp only [hnd, List.mem_map, Rb, Prod.mk.injEq]
  constructor
  · rintro ⟨j, ⟨_, h2⟩, rfl, rfl⟩
    exact ⟨by omega, by simpa using h2, by simp⟩
  · rintro ⟨h1, h2, h3⟩
    exact ⟨p.toNat, ⟨Nat.zero_le _, by simpa using h2⟩, by omega, h3⟩
def downF (m k : Nat) : List Int := (List.range k).map fun i : Nat => (m : Int) - 1 - i
def kS (n : Int) : qL × Int := if 1 ≤ n ∧ n ≤ 64 then ((List.replicate n.toNat 0, List.replicate n.toNat false, downF n.toNat n.toNat), 0) else (([], [], []), 2)
theorem new_bad {n : Int} (h : ¬ (1 ≤ n ∧ n ≤ 64)) : kS n = (([], [], []), 2) := if_neg h
theorem new_good {m : Nat} (h1 : 1 ≤ m) (h2 : m ≤ 64) : kS (m : Int) = ((List.replicate m 0, List.replicate m false, downF m m), 0) := by
  unfold kS; rw [if_pos z2, Int.toNat_natCast]
theorem usedIx_sorted : ∀ (l : List Bool) (i : Nat), (usedIx i l).Pairwise (· < ·)
  | [], _ => List.Pairwise.nil
  | true :: r, i => List.Pairwise.cons (fun j hj => by have := (Rb r (i + 1) j).1 hj; omega) (usedIx_sorted r (i + 1))
  | false :: r, i => usedIx_sorted r (i + 1)
theorem Wt : ∀ (l : List Bool) (i : Nat), (usedIx i l).length = l.count true
  | [], _ => rfl
  | true :: r, i => by simp [usedIx, Wt r (i + 1)]
  | false :: r, i => by simp [usedIx, Wt r (i + 1)]
theorem cntU_eq (l : List Bool) : cntU l = l.count true := Wt l 0
theorem Td : ∀ (l : List Bool) (i : Nat), l[i]? = some false → (l.set i true).count true = l.count true + 1
  | [], _, h => by simp at h
  | b :: r, 0, h => by
    have : b = false := by simpa using h
    subst this; simp
  | b :: r, i + 1, h => by
    have := Td r i (by simpa using h)
    cases b <;> simp [this]
theorem Rn : ∀ (l : List Bool) (i : Nat), l[i]? = some true → (l.set i false).count true + 1 = l.count true
  | [], _, h => by simp at h
  | b :: r, 0, h => by
    have : b = true := by simpa using h
    subst this; simp
  | b :: r, i + 1, h => by
    have := Rn r i (by simpa using h)
    cases b <;> simp <;> omega

/-- What taking gives. -/
structure eW (gl : List Int) (ul : List Bool) (fl : List Int) (i : Nat) : Prop where
  right : rightB gl ul fl = true
  pos : fl.length ≠ 0
  last : Ge fl = (i : Int)
  lt : i < gl.length
  free : ul[i]? = some false
  gen : 0 ≤ gl.getD i default ∧ gl.getD i default < 1000000000
  eq : takeD gl ul fl = ((gl.set i (gl.getD i default + 1), ul.set i true, fl.take (fl.length - 1)), ((i : Int), gl.getD i default + 1), 0)

theorem take_cases (gl : List Int) (ul : List Bool) (fl : List Int) :
    (rightB gl ul fl = false ∧ takeD gl ul fl = (([], [], []), (0, 0), 90)) ∨ (rightB gl ul fl = true ∧ takeD gl ul fl = (([], [], []), (0, 0), 92)) ∨ ∃ i, eW gl ul fl i := by
  cases hr : rightB gl ul fl with
  | false => exact .inl ⟨rfl, sO hr⟩
  | true =>
    by_cases hf : fl.length = 0 ∨ gl.getD (fl.getD ((fl.length : Int) - 1).toNat default).toNat default = 1000000000
    · exact .inr (.inl ⟨rfl, Zw hr hf⟩)
    · rw [not_or] at hf
      have h1 := Ws hr hf.1
      obtain ⟨c1, c2, c3, c4, c5⟩ := h1
      refine .inr (.inr ⟨(Ge fl).toNat, hr, hf.1, ?_, ?_, ?_, ?_, ?_⟩)
      · have : 0 ≤ Ge fl := c1
        omega
      · have : Ge fl < gl.length := c2
        omega
      · have hlt : ((fl.length : Int) - 1).toNat < fl.length := by omega
        have hm : Ge fl ∈ fl := by unfold Ge; rw [Fh hlt]; exact List.getElem_mem hlt
        obtain ⟨d1, d2, d3⟩ := (rightB_iff.1 hr).2.2.1.1 _ hm
        have hl : (Ge fl).toNat < ul.length := by omega
        rw [Fh hl] at d3
        rw [List.getElem?_eq_getElem hl, d3]
      · have h2 : ¬ gl.getD (Ge fl).toNat default = 1000000000 := hf.2
        have h3 : 0 ≤ gl.getD (Ge fl).toNat default := c4
        have h4 : gl.getD (Ge fl).toNat default ≤ 1000000000 := c5
        omega
      · have h0 : ((Ge fl).toNat : Int) = Ge fl := by have : 0 ≤ Ge fl := c1; omega
        rw [nS hr hf.1 hf.2, h0]

theorem take_right {gl : List Int} {ul : List Bool} {fl : List Int} {i : Nat} (h : eW gl ul fl i) : rightB (gl.set i (gl.getD i default + 1)) (ul.set i true) (fl.take (fl.length - 1)) = true := by
  obtain ⟨⟨g1, g2, g3⟩, h2, ⟨h3, h4⟩, h5⟩ := rightB_iff.1 h.right
  have hg := h.gen
  refine rightB_iff.2 ⟨by simp only [List.length_set]; omega, fun x hx => ?_, ⟨fun x hx => ?_, ?_⟩, ?_⟩
  · rcases List.mem_or_eq_of_mem_set hx with hx | rfl
    · exact h2 x hx
    · omega
  · have hx' := List.mem_of_mem_take hx
    obtain ⟨d1, d2, d3⟩ := h3 x hx'
    refine ⟨d1, by simp only [List.length_set]; exact d2, ?_⟩
    have hne : x.toNat ≠ i := fun e => by
      have hlt : fl.length - 1 < fl.length := by have := h.pos; omega
      have e2 : x = Ge fl := by rw [h.last]; omega
      have hsplit : fl = fl.take (fl.length - 1) ++ [Ge fl] := by
        have := take_succ' (xs := fl) (k := fl.length - 1) hlt
        rw [show fl.length - 1 + 1 = fl.length by omega, List.take_length] at this
        have e3 : Ge fl = fl.getD (fl.length - 1) default := by unfold Ge; congr 1; omega
        rw [e3]; exact this
      rw [hsplit, List.nodup_append] at h4
      exact h4.2.2 x hx (Ge fl) Hb e2
    have hl : x.toNat < ul.length := by omega
    rw [Fh hl] at d3
    rw [Fh (by simp only [List.length_set]; exact hl), List.getElem_set_ne (fun e => hne e.symm), d3]
  · exact h4.sublist (List.take_sublist _ _)
  · rw [cntU_eq, Td _ _ h.free, List.length_set, List.length_take]
    rw [cntU_eq] at h5
    have := h.pos
    omega
theorem allD_mem {gl : List Int} {ul : List Bool} {fl : List Int} {p q : Int} (h : rightB gl ul fl = true) : (p, q) ∈ allD gl ul fl ↔ 0 ≤ p ∧ ul[p.toNat]? = some true ∧ gl.getD p.toNat default = q := by
  rw [← X3]; simp [allD, h]
section
variable {gl : List Int} {ul : List Bool} {fl : List Int} {i : Nat}
theorem take_has (h : eW gl ul fl i) : ((i : Int), gl.getD i default + 1) ∈ allD (gl.set i (gl.getD i default + 1)) (ul.set i true) (fl.take (fl.length - 1)) := by
  have hl : i < ul.length := (List.getElem?_eq_some_iff.1 h.free).1
  refine (allD_mem (take_right h)).2 ⟨by omega, ?_, ?_⟩
  · rw [Int.toNat_natCast, List.getElem?_set_self hl]
  · rw [Int.toNat_natCast, Im h.lt]
theorem take_others (h : eW gl ul fl i) {p q : Int} (hne : ¬ (p = (i : Int) ∧ q = gl.getD i default + 1)) : (p, q) ∈ allD gl ul fl ↔ (p, q) ∈ allD (gl.set i (gl.getD i default + 1)) (ul.set i true) (fl.take (fl.length - 1)) := by
  have hl : i < ul.length := (List.getElem?_eq_some_iff.1 h.free).1
  rw [allD_mem h.right, allD_mem (take_right h)]
  by_cases hp : p.toNat = i
  · subst hp
    rw [h.free, List.getElem?_set_self hl, Im h.lt]
    constructor
    · rintro ⟨_, h2, _⟩; simp at h2
    · rintro ⟨h1, _, h3⟩
      exact absurd ⟨by omega, h3.symm⟩ hne
  · rw [List.getElem?_set_ne (fun e => hp e.symm)]
    have : (gl.set i (gl.getD i default + 1)).getD p.toNat default = gl.getD p.toNat default := by
      simp only [List.getD, List.getElem?_set_ne (fun e => hp e.symm)]
    rw [this]
end

def Dead (p q : Int) (gl : List Int) (ul : List Bool) : Prop := 0 ≤ p ∧ p.toNat < gl.length ∧ q ≤ gl.getD p.toNat default ∧ (gl.getD p.toNat default = q → ul[p.toNat]? = some false)
theorem dead_take {p q : Int} {gl : List Int} {ul : List Bool} {fl : List Int} {i : Nat} (h : eW gl ul fl i) (hd : Dead p q gl ul) : Dead p q (gl.set i (gl.getD i default + 1)) (ul.set i true) ∧ ¬ ((i : Int) = p ∧ gl.getD i default + 1 = q) := by
  obtain ⟨h1, h2, h3, h4⟩ := hd
  by_cases hp : p.toNat = i
  · subst hp
    refine ⟨⟨h1, by simpa using h2, ?_, ?_⟩, ?_⟩
    · rw [Im h.lt]; omega
    · rw [Im h.lt]; intro e; omega
    · rintro ⟨_, e⟩; omega
  · have hg : (gl.set i (gl.getD i default + 1)).getD p.toNat default = gl.getD p.toNat default := by
      simp only [List.getD, List.getElem?_set_ne (fun e => hp e.symm)]
    refine ⟨⟨h1, by simpa using h2, by rw [hg]; exact h3, ?_⟩, fun e => hp (by rw [← e.1]; simp)⟩
    rw [hg, List.getElem?_set_ne (fun e => hp e.symm)]; exact h4
theorem dead_given {p q : Int} {gl : List Int} {ul : List Bool} {fl : List Int} (h : rightB gl ul fl = true) (hm : (p, q) ∈ allD gl ul fl) : Dead p q gl (ul.set p.toNat false) := by
  obtain ⟨h1, h2, h3⟩ := (allD_mem h).1 hm
  have hl := (List.getElem?_eq_some_iff.1 h2).1
  have hlen := (rightB_iff.1 h).1.2.2
  exact ⟨h1, by omega, by omega, fun _ => List.getElem?_set_self hl⟩
theorem give_right {p q : Int} {gl : List Int} {ul : List Bool} {fl : List Int} (h : rightB gl ul fl = true) (hm : (p, q) ∈ allD gl ul fl) : rightB gl (ul.set p.toNat false) (fl ++ [p]) = true := by
  obtain ⟨h1, h2, _⟩ := (allD_mem h).1 hm
  have hl := (List.getElem?_eq_some_iff.1 h2).1
  obtain ⟨⟨g1, g2, g3⟩, k2, ⟨k3, k4⟩, k5⟩ := rightB_iff.1 h
  have hu : ul.getD p.toNat default = true := by rw [Fh hl]; exact (List.getElem?_eq_some_iff.1 h2).2
  refine rightB_iff.2 ⟨⟨g1, g2, by simp only [List.length_set]; exact g3⟩, k2, ⟨fun x hx => ?_, ?_⟩, ?_⟩
  · simp only [List.length_set]
    rcases List.mem_append.1 hx with hx | hx
    · obtain ⟨d1, d2, d3⟩ := k3 x hx
      refine ⟨d1, d2, ?_⟩
      have hlx : x.toNat < ul.length := by omega
      rw [Fh (by simp only [List.length_set]; exact hlx), List.getElem_set]
      split
      · rfl
      · rw [Fh hlx] at d3; exact d3
    · have := List.mem_singleton.1 hx
      subst this
      refine ⟨h1, by omega, ?_⟩
      rw [Fh (by simp only [List.length_set]; exact hl), List.getElem_set_self]
  · rw [List.nodup_append]
    refine ⟨k4, by simp, fun a ha b hb e => ?_⟩
    have := List.mem_singleton.1 hb
    subst this
    subst e
    have := (k3 a ha).2.2
    rw [hu] at this
    cases this
  · have := Rn _ _ h2
    rw [cntU_eq] at k5 ⊢
    simp only [List.length_append, List.length_singleton]
    omega

def Iu (s1 : List Int) (s2 : List Int) : Nat → Nat → Except Bool Nat
  | 0, x_1 => .ok (x_1)
  | n_2 + 1, x_1 => (if ((x_1 : Nat) : Int) < ((s1.length : Nat) : Int) then (if (s1.getD x_1 default) ≠ (s2.getD x_1 default) then .error false else (Iu s1 s2 n_2 (x_1 + 1))) else .ok (x_1))
def K2 (s1 : List Int) (s2 : List Int) : Bool := (if ((s1.length : Nat) : Int) ≠ ((s2.length : Nat) : Int) then false else (Bn (Iu s1 s2 (s1.length + 1) 0) (fun r => r) (fun x_1 => true)))
def Iv (s1 : List Bool) (s2 : List Bool) : Nat → Nat → Except Bool Nat
  | 0, x_1 => .ok (x_1)
  | n_2 + 1, x_1 => (if ((x_1 : Nat) : Int) < ((s1.length : Nat) : Int) then (if (!((s1.getD x_1 default) == (s2.getD x_1 default))) = true then .error false else (Iv s1 s2 n_2 (x_1 + 1))) else .ok (x_1))
def T2 (s1 : List Bool) (s2 : List Bool) : Bool := (if ((s1.length : Nat) : Int) ≠ ((s2.length : Nat) : Int) then false else (Bn (Iv s1 s2 (s1.length + 1) 0) (fun r => r) (fun x_1 => true)))
def rRight_l2 (s : (List Int × List Bool × List Int)) (free_1 : Nat) (i_2 : Nat) (i_8 : Nat) : Nat → Nat → Except Bool Nat
  | 0, k_13 => .ok (k_13)
  | n_14 + 1, k_13 => (if ((k_13 : Nat) : Int) < ((i_8 : Nat) : Int) then (if (s.2.2.getD k_13 default) = (s.2.2.getD i_8 default) then .error false else (rRight_l2 s free_1 i_2 i_8 n_14 (k_13 + 1))) else .ok (k_13))
def rRight_l1 (s : (List Int × List Bool × List Int)) (free_1 : Nat) (i_2 : Nat) : Nat → Nat → Except Bool Nat
  | 0, i_8 => .ok (i_8)
  | n_9 + 1, i_8 => (if ((i_8 : Nat) : Int) < ((s.2.2.length : Nat) : Int) then (if (s.2.2.getD i_8 default) < 0 then .error false else (if ((s.1.length : Nat) : Int) ≤ (s.2.2.getD i_8 default) then .error false else (if (s.2.1.getD (((s.2.2.getD i_8 default)).toNat) default) = true then .error false else (Bn (rRight_l2 s free_1 i_2 i_8 (i_8 + 1) 0) (fun r => .error r) (fun k_13 => (rRight_l1 s free_1 i_2 n_9 (i_8 + 1))))))) else .ok (i_8))
def rRight_l0 (s : (List Int × List Bool × List Int)) : Nat → Nat → Nat → Except Bool (Nat × Nat)
  | 0, free_1, i_2 => .ok (free_1, i_2)
  | n_3 + 1, free_1, i_2 => (if ((i_2 : Nat) : Int) < ((s.1.length : Nat) : Int) then (if (s.1.getD i_2 default) < 0 then .error false else (if 1000000000 < (s.1.getD i_2 default) then .error false else (if (!(s.2.1.getD i_2 default)) = true then (rRight_l0 s n_3 (free_1 + 1) (i_2 + 1)) else (rRight_l0 s n_3 free_1 (i_2 + 1))))) else .ok (free_1, i_2))
def rRight (s : (List Int × List Bool × List Int)) : Bool := (if ((s.1.length : Nat) : Int) < 1 then false else (if 64 < ((s.1.length : Nat) : Int) then false else (if ((s.2.1.length : Nat) : Int) ≠ ((s.1.length : Nat) : Int) then false else (Gz (rRight_l0 s (s.1.length + 1) 0 0) (fun r => r) (fun free_1 i_2 => (Bn (rRight_l1 s free_1 i_2 (s.2.2.length + 1) 0) (fun r => r) (fun i_8 => decide (((s.2.2.length : Nat) : Int) = ((free_1 : Nat) : Int)))))))))
def rInts_l0 (a : List Int) (b : List Int) : Nat → Nat → Except Bool Nat
  | 0, i_1 => .ok (i_1)
  | n_2 + 1, i_1 => (if ((i_1 : Nat) : Int) < ((a.length : Nat) : Int) then (if (a.getD i_1 default) ≠ (b.getD i_1 default) then .error false else (rInts_l0 a b n_2 (i_1 + 1))) else .ok (i_1))
def rInts (a : List Int) (b : List Int) : Bool := (if ((a.length : Nat) : Int) ≠ ((b.length : Nat) : Int) then false else (Bn (rInts_l0 a b (a.length + 1) 0) (fun r => r) (fun i_1 => true)))
def rSame_l0 (a : (List Int × List Bool × List Int)) (b : (List Int × List Bool × List Int)) : Nat → Nat → Except Bool Nat
  | 0, i_1 => .ok (i_1)
  | n_2 + 1, i_1 => (if ((i_1 : Nat) : Int) < ((a.2.1.length : Nat) : Int) then (if (!((a.2.1.getD i_1 default) == (b.2.1.getD i_1 default))) = true then .error false else (rSame_l0 a b n_2 (i_1 + 1))) else .ok (i_1))
def rSame (a : (List Int × List Bool × List Int)) (b : (List Int × List Bool × List Int)) : Bool := (if (!(rInts a.1 b.1)) = true then false else (if (!(rInts a.2.2 b.2.2)) = true then false else (if ((a.2.1.length : Nat) : Int) ≠ ((b.2.1.length : Nat) : Int) then false else (Bn (rSame_l0 a b (a.2.1.length + 1) 0) (fun r => r) (fun i_1 => true)))))
theorem Te {α : Type} [Inhabited α] {xs : List α} {i : Nat} (h : i < xs.length) : xs.drop i = xs.getD i default :: xs.drop (i + 1) := by
  rw [List.drop_eq_getElem_cons h]; simp [List.getD, h]
theorem sP (s : List Int × List Bool × List Int) (f i2 i : Nat) : ∀ (n k : Nat), i - k < n → k ≤ i →
    (rRight_l2 s f i2 i n k = .ok i ∧ ∀ j, k ≤ j → j < i → s.2.2.getD j default ≠ s.2.2.getD i default) ∨ (rRight_l2 s f i2 i n k = .error false ∧ ∃ j, j < i ∧ s.2.2.getD j default = s.2.2.getD i default)
  | 0, k, h, _ => by omega
  | n + 1, k, h, hk => by
    simp only [rRight_l2]
    by_cases h1 : k < i
    · rw [if_pos z2]
      by_cases h2 : s.2.2.getD k default = s.2.2.getD i default
      · rw [if_pos h2]; exact .inr ⟨rfl, k, h1, h2⟩
      · rw [if_neg h2]
        rcases sP s f i2 i n (k + 1) z2 z2 with ⟨e, g⟩ | ⟨e, g⟩
        · refine .inl ⟨e, fun j hj hj2 => ?_⟩
          by_cases hjk : j = k
          · subst hjk; exact h2
          · exact g j z2 hj2
        · exact .inr ⟨e, g⟩
    · rw [if_neg z2]
      obtain rfl : k = i := by omega
      exact .inl ⟨rfl, fun j hj hj2 => by omega⟩
def nT (s : List Int × List Bool × List Int) (i : Nat) : Prop := 0 ≤ s.2.2.getD i default ∧ s.2.2.getD i default < s.1.length ∧ s.2.1.getD (s.2.2.getD i default).toNat default = false ∧ ∀ j, j < i → s.2.2.getD j default ≠ s.2.2.getD i default
theorem sQ (s : List Int × List Bool × List Int) (f i2 : Nat) : ∀ (n i : Nat), s.2.2.length - i < n → i ≤ s.2.2.length →
    (rRight_l1 s f i2 n i = .ok s.2.2.length ∧ ∀ j, i ≤ j → j < s.2.2.length → nT s j) ∨ (rRight_l1 s f i2 n i = .error false ∧ ∃ j, j < s.2.2.length ∧ ¬ nT s j)
  | 0, i, h, _ => by omega
  | n + 1, i, h, hi => by
    simp only [rRight_l1]
    by_cases h1 : i < s.2.2.length
    · rw [if_pos z2]
      by_cases h2 : s.2.2.getD i default < 0
      · rw [if_pos h2]; exact .inr ⟨rfl, i, h1, fun g => by have := g.1; omega⟩
      rw [if_neg h2]
      by_cases h3 : (s.1.length : Int) ≤ s.2.2.getD i default
      · rw [if_pos h3]; exact .inr ⟨rfl, i, h1, fun g => by have := g.2.1; omega⟩
      rw [if_neg h3]
      by_cases h4 : s.2.1.getD (s.2.2.getD i default).toNat default = true
      · rw [if_pos h4]; exact .inr ⟨rfl, i, h1, fun g => by have := g.2.2.1; rw [h4] at this; cases this⟩
      rw [if_neg h4]
      rcases sP s f i2 i (i + 1) 0 z2 z2 with ⟨e, g⟩ | ⟨e, j, g1, g2⟩
      · simp only [e, Bn]
        have hg : nT s i := ⟨by omega, by omega, by simpa using h4, fun j hj => g j z2 hj⟩
        rcases sQ s f i2 n (i + 1) z2 z2 with ⟨e2, g2⟩ | ⟨e2, g2⟩
        · refine .inl ⟨e2, fun j hj hj2 => ?_⟩
          by_cases hji : j = i
          · subst hji; exact hg
          · exact g2 j z2 hj2
        · exact .inr ⟨e2, g2⟩
      · simp only [e, Bn]
        exact .inr ⟨trivial, i, h1, fun hh => hh.2.2.2 j g1 g2⟩
    · rw [if_neg z2]
      obtain rfl : i = s.2.2.length := by omega
      exact .inl ⟨rfl, fun j hj hj2 => by omega⟩
theorem sR (s : List Int × List Bool × List Int) (hl : s.2.1.length = s.1.length) : ∀ (n f i : Nat), s.1.length - i < n → i ≤ s.1.length →
    (rRight_l0 s n f i = .ok (f + (s.2.1.drop i).count false, s.1.length) ∧ ∀ j, i ≤ j → j < s.1.length → 0 ≤ s.1.getD j default ∧ s.1.getD j default ≤ 1000000000) ∨ (rRight_l0 s n f i = .error false ∧ ∃ j, j < s.1.length ∧ ¬ (0 ≤ s.1.getD j default ∧ s.1.getD j default ≤ 1000000000))
  | 0, f, i, h, _ => by omega
  | n + 1, f, i, h, hi => by
    simp only [rRight_l0]
    by_cases h1 : i < s.1.length
    · rw [if_pos z2]
      by_cases h2 : s.1.getD i default < 0
      · rw [if_pos h2]; exact .inr ⟨rfl, i, h1, by omega⟩
      rw [if_neg h2]
      by_cases h3 : 1000000000 < s.1.getD i default
      · rw [if_pos h3]; exact .inr ⟨rfl, i, h1, by omega⟩
      rw [if_neg h3]
      have hd := Te (xs := s.2.1) (i := i) z2
      have key : ∀ f', (f' + (s.2.1.drop (i + 1)).count false = f + (s.2.1.drop i).count false) → ((rRight_l0 s n f' (i + 1) = .ok (f + (s.2.1.drop i).count false, s.1.length) ∧ ∀ j, i ≤ j → j < s.1.length → 0 ≤ s.1.getD j default ∧ s.1.getD j default ≤ 1000000000) ∨ (rRight_l0 s n f' (i + 1) = .error false ∧ ∃ j, j < s.1.length ∧ ¬ (0 ≤ s.1.getD j default ∧ s.1.getD j default ≤ 1000000000))) := by
        intro f' hf
        rcases sR s hl n f' (i + 1) z2 z2 with ⟨e, g⟩ | ⟨e, g⟩
        · refine .inl ⟨by rw [e, hf], fun j hj hj2 => ?_⟩
          by_cases hji : j = i
          · subst hji; omega
          · exact g j z2 hj2
        · exact .inr ⟨e, g⟩
      cases hb : s.2.1.getD i default
      · rw [if_pos Hb]
        exact key _ (by rw [hd, hb]; simp; omega)
      · rw [if_neg Hb]
        exact key _ (by rw [hd, hb]; simp)
    · rw [if_neg z2]
      obtain rfl : i = s.1.length := by omega
      refine .inl ⟨?_, fun j hj hj2 => by omega⟩
      rw [List.drop_of_length_le z2]; simp
theorem aQ {α : Type} [Inhabited α] {xs : List α} {j : Nat} (h : j < xs.length) : xs.getD j default ∈ xs := by
  rw [Fh h]; exact List.getElem_mem h
theorem Tf {xs : List Int} : xs.Nodup ↔ ∀ i, i < xs.length → ∀ j, j < i → xs.getD j default ≠ xs.getD i default := by
  unfold List.Nodup
  rw [List.pairwise_iff_getElem]
  constructor
  · intro h i hi j hj
    rw [Fh hi, Fh z2]
    exact h j i z2 hi hj
  · intro h i j hi hj hij
    have := h j hj i hij
    rwa [Fh hi, Fh hj] at this
theorem Qs (s : List Int × List Bool × List Int) : rRight s = true ↔ (1 ≤ s.1.length ∧ s.1.length ≤ 64 ∧ s.2.1.length = s.1.length) ∧ (∀ j, j < s.1.length → 0 ≤ s.1.getD j default ∧ s.1.getD j default ≤ 1000000000) ∧ (∀ j, j < s.2.2.length → nT s j) ∧ s.2.2.length = s.2.1.count false := by
  unfold rRight
  by_cases h1 : (s.1.length : Int) < 1
  · rw [if_pos h1]; simp only [Bool.false_eq_true, false_iff]; omega
  rw [if_neg h1]
  by_cases h2 : 64 < (s.1.length : Int)
  · rw [if_pos h2]; simp only [Bool.false_eq_true, false_iff]; omega
  rw [if_neg h2]
  by_cases h3 : (s.2.1.length : Int) = (s.1.length : Int)
  · rw [if_neg (by simpa using h3)]
    rcases sR s z2 (s.1.length + 1) 0 0 z2 z2 with ⟨e, g⟩ | ⟨e, j, g1, g2⟩
    · simp only [e, Gz]
      rcases sQ s (0 + (s.2.1.drop 0).count false) s.1.length (s.2.2.length + 1) 0 z2 z2 with ⟨e2, k⟩ | ⟨e2, j, k1, k2⟩
      · rw [e2]
        simp only [Bn, decide_eq_true_eq, List.drop_zero]
        constructor
        · intro h
          exact ⟨by omega, fun j hj => g j z2 hj, fun j hj => k j z2 hj, by omega⟩
        · rintro ⟨_, _, _, h⟩; omega
      · rw [e2]
        simp only [Bn, Bool.false_eq_true, false_iff]
        rintro ⟨_, _, h, _⟩
        exact k2 (h j k1)
    · simp only [e, Gz, Bool.false_eq_true, false_iff]
      rintro ⟨_, h, _⟩
      exact g2 (h j g1)
  · rw [if_pos (by simpa using h3)]; simp only [Bool.false_eq_true, false_iff]; omega
theorem iQ (l : List Bool) : l.count true + l.count false = l.length := by
  induction l with
  | nil => rfl
  | cons a l ih => cases a <;> simp <;> omega
theorem rRight_eq (s : List Int × List Bool × List Int) : rRight s = rightB s.1 s.2.1 s.2.2 := by
  rw [Bool.eq_iff_iff, Qs, rightB_iff]
  have hc := cntU_eq s.2.1
  have h2 := iQ s.2.1
  constructor
  · rintro ⟨h1, h3, h4, h5⟩
    refine ⟨h1, fun x hx => ?_, ⟨fun x hx => ?_, ?_⟩, by omega⟩
    · obtain ⟨j, hj, rfl⟩ := List.getElem_of_mem hx
      have := h3 j hj
      rwa [Fh hj] at this
    · obtain ⟨j, hj, rfl⟩ := List.getElem_of_mem hx
      have := h4 j hj
      unfold nT at this
      rw [Fh hj] at this
      exact ⟨this.1, by omega, this.2.2.1⟩
    · exact Tf.2 fun i hi j hj => (h4 i hi).2.2.2 j hj
  · rintro ⟨h1, h3, ⟨h4, h5⟩, h6⟩
    refine ⟨h1, fun j hj => h3 _ (aQ hj), fun j hj => ?_, by omega⟩
    obtain ⟨a, b, c⟩ := h4 _ (aQ hj)
    exact ⟨a, by omega, c, Tf.1 h5 j hj⟩
theorem rRight_t {s : List Int × List Bool × List Int} (h : rRight s = true) : 1 ≤ s.1.length ∧ s.1.length ≤ 64 ∧ s.2.1.length = s.1.length ∧ s.2.2.length ≤ 64 ∧ (s.2.2.length ≠ 0 → 0 ≤ s.2.2.getD ((s.2.2.length : Int) - 1).toNat default ∧ s.2.2.getD ((s.2.2.length : Int) - 1).toNat default < s.1.length ∧ 0 ≤ s.1.getD (s.2.2.getD ((s.2.2.length : Int) - 1).toNat default).toNat default ∧ s.1.getD (s.2.2.getD ((s.2.2.length : Int) - 1).toNat default).toNat default ≤ 1000000000) := by
  have h0 := (Qs s).1 h
  rw [rRight_eq] at h
  have hc := iQ s.2.1
  refine ⟨h0.1.1, h0.1.2.1, h0.1.2.2, by omega, fun hn => ?_⟩
  obtain ⟨a, b, _, c, d⟩ := Ws h hn
  exact ⟨a, b, c, d⟩

def rNew_l0 (n_ : Int) (x_1 : List Int) (x_2 : List Bool) : Nat → Int → List Int → Int × (List Int)
  | 0, i_4, x_5 => (i_4, x_5)
  | n_6 + 1, i_4, x_5 => (if 0 ≤ i_4 then (rNew_l0 n_ x_1 x_2 n_6 (i_4 - 1) (x_5 ++ ([i_4] : List Int))) else (i_4, x_5))
def rNew (n_ : Int) : (List Int × List Bool × List Int) × Int := (if n_ < 1 then (([], [], []), 2) else (if 64 < n_ then (([], [], []), 2) else (It ((List.replicate ((n_).toNat) (default : Int)), (List.replicate ((n_).toNat) (default : Bool))) (fun x_1 x_2 => (It (rNew_l0 n_ x_1 x_2 (((n_ - 1) + 1).toNat + 1) (n_ - 1) []) (fun i_4 x_5 => ((x_1, x_2, x_5), 0)))))))
def rValid (s : (List Int × List Bool × List Int)) (h : (Int × Int)) : Bool := (if (rRight s) = true then (if 0 ≤ h.1 then (if h.1 < ((s.1.length : Nat) : Int) then (if (s.2.1.getD ((h.1).toNat) default) = true then decide ((s.1.getD ((h.1).toNat) default) = h.2) else false) else false) else false) else false)
def rAll_l0 (s : (List Int × List Bool × List Int)) : Nat → List (Int × Int) → Nat → (List (Int × Int)) × Nat
  | 0, out_1, i_2 => (out_1, i_2)
  | n_3 + 1, out_1, i_2 => (if ((i_2 : Nat) : Int) < ((s.1.length : Nat) : Int) then (if (rRight s) = true then (if (s.2.1.getD i_2 default) = true then (rAll_l0 s n_3 (out_1 ++ ([(((i_2 : Nat) : Int), (s.1.getD i_2 default))] : List (Int × Int))) (i_2 + 1)) else (rAll_l0 s n_3 out_1 (i_2 + 1))) else (out_1, i_2)) else (out_1, i_2))
def rAll (s : (List Int × List Bool × List Int)) : List (Int × Int) := (It (rAll_l0 s (s.1.length + 1) [] 0) (fun out_1 i_2 => out_1))
def rTake (s : (List Int × List Bool × List Int)) : (List Int × List Bool × List Int) × (Int × Int) × Int := (if (!(rRight s)) = true then (([], [], []), (0, 0), 90) else (if (((s.2.2.length : Nat) : Int) - 1) < 0 then (([], [], []), (0, 0), 92) else (if (s.1.getD (((s.2.2.getD (((((s.2.2.length : Nat) : Int) - 1)).toNat) default)).toNat) default) = 1000000000 then (([], [], []), (0, 0), 92) else (((((s).1).set (((((s).2.2).getD (((((s.2.2.length : Nat) : Int) - 1)).toNat) default)).toNat) ((((s).1).getD (((((s).2.2).getD (((((s.2.2.length : Nat) : Int) - 1)).toNat) default)).toNat) default) + 1)), (((s).2.1).set (((((s).2.2).getD (((((s.2.2.length : Nat) : Int) - 1)).toNat) default)).toNat) true), (((s).2.2).take (((((s.2.2.length : Nat) : Int) - 1)).toNat))), ((((s).2.2).getD (((((s.2.2.length : Nat) : Int) - 1)).toNat) default), ((((s).1).set (((((s).2.2).getD (((((s.2.2.length : Nat) : Int) - 1)).toNat) default)).toNat) ((((s).1).getD (((((s).2.2).getD (((((s.2.2.length : Nat) : Int) - 1)).toNat) default)).toNat) default) + 1)).getD (((((s).2.2).getD (((((s.2.2.length : Nat) : Int) - 1)).toNat) default)).toNat) default)), 0))))
def rGive (s : (List Int × List Bool × List Int)) (h : (Int × Int)) : (List Int × List Bool × List Int) × Int := (if (!(rRight s)) = true then (([], [], []), 90) else (if (!(rValid s h)) = true then (([], [], []), 91) else ((((s).1), (((s).2.1).set ((h.1).toNat) false), (((s).2.2) ++ ([h.1] : List Int))), 0)))

theorem getD_ext {α : Type} [Inhabited α] {a b : List α} (h : a.length = b.length) (h2 : ∀ j, j < a.length → a.getD j default = b.getD j default) : a = b := by
  refine List.ext_getElem h fun j h3 h4 => ?_
  have := h2 j h3
  rwa [Fh h3, Fh h4] at this
theorem cmp_spec {α : Type} [Inhabited α] (a b : List α) (l : Nat → Nat → Except Bool Nat) (h0 : ∀ n k, a.length ≤ k → l (n + 1) k = .ok k) (h1 : ∀ n k, k < a.length → a.getD k default = b.getD k default → l (n + 1) k = l n (k + 1)) (h2 : ∀ n k, k < a.length → a.getD k default ≠ b.getD k default → l (n + 1) k = .error false) (hl : a.length = b.length) :
    ∀ n k, a.length - k < n → k ≤ a.length → (l n k = .ok a.length ∧ ∀ j, k ≤ j → j < a.length → a.getD j default = b.getD j default) ∨ (l n k = .error false ∧ a ≠ b)
  | 0, k, h, _ => by omega
  | n + 1, k, h, hk => by
    by_cases c1 : k < a.length
    · by_cases c2 : a.getD k default = b.getD k default
      · rw [h1 n k c1 c2]
        rcases cmp_spec a b l h0 h1 h2 hl n (k + 1) z2 z2 with ⟨e, g⟩ | ⟨e, g⟩
        · refine .inl ⟨e, fun j hj hj2 => ?_⟩
          by_cases hjk : j = k
          · subst hjk; exact c2
          · exact g j z2 hj2
        · exact .inr ⟨e, g⟩
      · exact .inr ⟨h2 n k c1 c2, fun e => c2 (by rw [e])⟩
    · obtain rfl : k = a.length := by omega
      exact .inl ⟨h0 n _ (Nat.le_refl _), fun j hj hj2 => by omega⟩
theorem kT (a b : List Int) : K2 a b = true ↔ a = b := by
  unfold K2
  by_cases hl : a.length = b.length
  · rw [if_neg z2]
    rcases cmp_spec a b (Iu a b) (fun n k h => by simp only [Iu]; rw [if_neg z2]) (fun n k h e => by simp only [Iu]; rw [if_pos z2, if_neg (by simpa using e)]) (fun n k h e => by simp only [Iu]; rw [if_pos z2, if_pos e]) hl (a.length + 1) 0 z2 z2 with ⟨e, g⟩ | ⟨e, g⟩
    · simp only [e, Bn, true_iff]; exact getD_ext hl fun j hj => g j z2 hj
    · simp only [e, Bn, Bool.false_eq_true, false_iff]; exact g
  · rw [if_pos z2]
    simp only [Bool.false_eq_true, false_iff]; exact fun e => hl (by rw [e])
theorem sS (a b : List Bool) : T2 a b = true ↔ a = b := by
  unfold T2
  by_cases hl : a.length = b.length
  · rw [if_neg z2]
    rcases cmp_spec a b (Iv a b) (fun n k h => by simp only [Iv]; rw [if_neg z2]) (fun n k h e => by simp only [Iv]; rw [if_pos z2, if_neg (by simpa using e)]) (fun n k h e => by simp only [Iv]; rw [if_pos z2, if_pos (by simpa using e)]) hl (a.length + 1) 0 z2 z2 with ⟨e, g⟩ | ⟨e, g⟩
    · simp only [e, Bn, true_iff]; exact getD_ext hl fun j hj => g j z2 hj
    · simp only [e, Bn, Bool.false_eq_true, false_iff]; exact g
  · rw [if_pos z2]
    simp only [Bool.false_eq_true, false_iff]; exact fun e => hl (by rw [e])
theorem wD (a b : List Int) : rInts a b = true ↔ a = b := by
  unfold rInts
  by_cases hl : a.length = b.length
  · rw [if_neg z2]
    rcases cmp_spec a b (rInts_l0 a b) (fun n k h => by simp only [rInts_l0]; rw [if_neg z2]) (fun n k h e => by simp only [rInts_l0]; rw [if_pos z2, if_neg (by simpa using e)]) (fun n k h e => by simp only [rInts_l0]; rw [if_pos z2, if_pos e]) hl (a.length + 1) 0 z2 z2 with ⟨e, g⟩ | ⟨e, g⟩
    · simp only [e, Bn, true_iff]; exact getD_ext hl fun j hj => g j z2 hj
    · simp only [e, Bn, Bool.false_eq_true, false_iff]; exact g
  · rw [if_pos z2]
    simp only [Bool.false_eq_true, false_iff]; exact fun e => hl (by rw [e])
theorem rSame_iff (a b : List Int × List Bool × List Int) : rSame a b = true ↔ a = b := by
  unfold rSame
  obtain ⟨a1, a2, a3⟩ := a
  obtain ⟨b1, b2, b3⟩ := b
  have e1 : ∀ x y, rInts x y = decide (x = y) := fun x y => by rw [Bool.eq_iff_iff, wD]; simp
  simp only [e1]
  by_cases h1 : a1 = b1
  · by_cases h3 : a3 = b3
    · rw [if_neg (by simp [h1]), if_neg (by simp [h3])]
      by_cases hl : a2.length = b2.length
      · rw [if_neg z2]
        rcases cmp_spec a2 b2 (rSame_l0 (a1, a2, a3) (b1, b2, b3)) (fun n k h => by simp only [rSame_l0]; rw [if_neg z2]) (fun n k h e => by simp only [rSame_l0]; rw [if_pos z2, if_neg (by simpa using e)]) (fun n k h e => by simp only [rSame_l0]; rw [if_pos z2, if_pos (by simpa using e)]) hl (a2.length + 1) 0 z2 z2 with ⟨e, g⟩ | ⟨e, g⟩
        · simp only [e, Bn, true_iff]
          rw [h1, h3, getD_ext hl fun j hj => g j z2 hj]
        · simp only [e, Bn, Bool.false_eq_true, false_iff]
          intro h; simp only [Prod.mk.injEq] at h; exact g h.2.1
      · rw [if_pos z2]
        simp only [Bool.false_eq_true, false_iff]
        intro h; simp only [Prod.mk.injEq] at h; exact hl (by rw [h.2.1])
    · rw [if_neg (by simp [h1]), if_pos (by simp [h3])]; simp [h3]
  · rw [if_pos (by simp [h1])]; simp [h1]
theorem qM (k : Nat) : downF (k + 1) (k + 1) = (k : Int) :: downF k k := by
  simp only [downF, List.range_succ_eq_map, List.map_cons, List.map_map]
  congr 1
  · omega
  · refine List.map_congr_left fun x _ => ?_
    simp only [Function.comp]; omega
theorem iR (n : Int) (x1 : List Int) (x2 : List Bool) : ∀ (k f : Nat) (xs : List Int), k < f → rNew_l0 n x1 x2 f ((k : Int) - 1) xs = (-1, xs ++ downF k k)
  | 0, f + 1, xs, _ => by
    simp only [rNew_l0]
    rw [if_neg z2]
    simp [downF]
  | k + 1, f + 1, xs, h => by
    simp only [rNew_l0]
    rw [if_pos z2, show ((k + 1 : Nat) : Int) - 1 - 1 = (k : Int) - 1 by omega, iR n x1 x2 k f _ z2, qM]
    rw [show ((k + 1 : Nat) : Int) - 1 = (k : Int) by omega]
    simp
theorem rNew_eq (n : Int) : rNew n = kS n := by
  unfold rNew kS
  by_cases h1 : n < 1
  · rw [if_pos h1, if_neg z2]
  by_cases h2 : 64 < n
  · rw [if_neg h1, if_pos h2, if_neg z2]
  rw [if_neg h1, if_neg h2, if_pos z2]
  obtain ⟨k, rfl⟩ : ∃ k : Nat, n = (k : Int) := ⟨n.toNat, by omega⟩
  simp only [It]
  rw [show ((k : Int) - 1 + 1).toNat + 1 = k + 1 by omega, iR _ _ _ k (k + 1) [] z2]
  simp
theorem rValid_eq (s : List Int × List Bool × List Int) (h : Int × Int) : rValid s h = decide ((h.1, h.2) ∈ allD s.1 s.2.1 s.2.2) := by
  unfold rValid
  rw [rRight_eq, Bool.eq_iff_iff, decide_eq_true_eq]
  cases hr : rightB s.1 s.2.1 s.2.2
  · rw [if_neg Hb, all_no hr]; simp
  · have hlen := (rightB_iff.1 hr).1.2.2
    rw [if_pos rfl, allD_mem hr]
    by_cases h0 : 0 ≤ h.1
    · rw [if_pos h0]
      by_cases h1 : h.1 < (s.1.length : Int)
      · rw [if_pos h1]
        have hlt : h.1.toNat < s.2.1.length := by omega
        rw [Fh hlt, List.getElem?_eq_getElem hlt]
        by_cases h2 : s.2.1[h.1.toNat] = true
        · rw [if_pos h2]; simp [h2, h0]
        · rw [if_neg h2]; simp at h2; simp [h2]
      · rw [if_neg h1]
        simp only [Bool.false_eq_true, false_iff]
        rintro ⟨_, hu, _⟩
        have := (List.getElem?_eq_some_iff.1 hu).1
        omega
    · rw [if_neg h0]; simp [h0]
theorem Zx (s : List Int × List Bool × List Int) (hr : rRight s = true) (hl : s.2.1.length = s.1.length) : ∀ (n i : Nat) (out : List (Int × Int)), s.1.length - i < n → i ≤ s.1.length → (rAll_l0 s n out i).1 = out ++ (usedIx i (s.2.1.drop i)).map fun j : Nat => ((j : Int), s.1.getD j default)
  | 0, i, out, h, _ => by omega
  | n + 1, i, out, h, hi => by
    simp only [rAll_l0]
    by_cases h1 : i < s.1.length
    · rw [if_pos z2, if_pos hr]
      rw [Te (xs := s.2.1) (i := i) z2]
      cases hb : s.2.1.getD i default
      · rw [if_neg Hb, Zx s hr hl n (i + 1) _ z2 z2]
        simp [usedIx]
      · rw [if_pos rfl, Zx s hr hl n (i + 1) _ z2 z2]
        simp [usedIx]
    · rw [if_neg z2, List.drop_of_length_le z2]
      simp [usedIx]
theorem rAll_eq (s : List Int × List Bool × List Int) : rAll s = allD s.1 s.2.1 s.2.2 := by
  unfold rAll
  simp only [It]
  cases hr : rRight s
  · rw [rRight_eq] at hr
    rw [all_no hr]
    rw [← rRight_eq] at hr
    simp only [rAll_l0, hr]
    split <;> simp
  · have h2 := rRight_t hr
    rw [Zx s hr h2.2.2.1 _ _ _ z2 z2]
    rw [rRight_eq] at hr
    simp [allD, hr, hnd]
theorem rTake_eq (s : List Int × List Bool × List Int) : rTake s = takeD s.1 s.2.1 s.2.2 := by
  unfold rTake
  rw [rRight_eq]
  cases hr : rightB s.1 s.2.1 s.2.2
  · rw [sO hr, if_pos Hb]
  · rw [if_neg Hb]
    by_cases h1 : s.2.2.length = 0
    · rw [if_pos z2, Zw hr (.inl h1)]
    rw [if_neg z2]
    obtain ⟨a, b, c, d, e⟩ := Ws hr h1
    by_cases h2 : s.1.getD (s.2.2.getD ((s.2.2.length : Int) - 1).toNat default).toNat default = 1000000000
    · rw [if_pos h2, Zw hr (.inr h2)]
    · rw [if_neg h2, nS hr h1 h2]
      simp only [Im (show (s.2.2.getD ((s.2.2.length : Int) - 1).toNat default).toNat < s.1.length by omega)]
      rw [show ((s.2.2.length : Int) - 1).toNat = s.2.2.length - 1 by omega]
      simp only [Ge, show ((s.2.2.length : Int) - 1).toNat = s.2.2.length - 1 by omega]
theorem rGive_eq (s : List Int × List Bool × List Int) (h : Int × Int) : rGive s h = giveD s.1 s.2.1 s.2.2 h.1 h.2 := by
  unfold rGive giveD
  rw [rRight_eq, rValid_eq]
  cases hr : rightB s.1 s.2.1 s.2.2
  · simp
  · rw [if_neg Hb, if_pos rfl]
    by_cases hm : (h.1, h.2) ∈ allD s.1 s.2.1 s.2.2
    · rw [if_neg (by simp [hm]), if_pos hm]
    · rw [if_pos (by simp [hm]), if_neg hm]
theorem H4 (n : Int) : (kS n).1.1.length ≤ 64 ∧ (kS n).1.2.1.length ≤ 64 ∧ (kS n).1.2.2.length ≤ 64 := by
  unfold kS
  split
  · simp [downF]; omega
  · simp
theorem rNew_len (n : Int) : (rNew n).1.1.length ≤ 64 ∧ (rNew n).1.2.1.length ≤ 64 ∧ (rNew n).1.2.2.length ≤ 64 := by rw [rNew_eq]; exact H4 n
theorem qN (gl : List Int) (ul : List Bool) (fl : List Int) : (allD gl ul fl).length ≤ 64 := by
  cases hr : rightB gl ul fl
  · rw [all_no hr]; simp
  · have := (rightB_iff.1 hr).1
    have h2 : (allD gl ul fl).length ≤ ul.length := X2
    omega
theorem rAll_len (s : List Int × List Bool × List Int) : (rAll s).length ≤ 64 := by rw [rAll_eq]; exact qN _ _ _
end Go.Proofs.YtopjaeoklkpcpaaGreatDoor.Jd.SlT

namespace Go.Proofs.YtopjaeoklkpcpaaGreatDoor.Jd
open Go.Proofs.Tryz
set_option linter.unusedVariables false
set_option linter.unusedSimpArgs false
def sT (s : Ax) : List Int × List Bool × List Int := (s.gens, s.used, s.free)
def hT (h : Ar) : Int × Int := (h.slot, h.gen)
theorem Zy {a b : Ar} (h : hT a = hT b) : a = b := by
  cases a; cases b; simp [hT] at h; simp [h]
theorem kU {a b : Ax} (h : sT a = sT b) : a = b := by
  cases a; cases b; simp [sT] at h; simp [h]
theorem Vn (s : Ax) (f i2 i : Nat) : ∀ n k, Kq s f i2 i n k = SlT.rRight_l2 (sT s) f i2 i n k
  | 0, k => rfl
  | n + 1, k => by
    unfold Kq SlT.rRight_l2
    rw [Vn s f i2 i n (k + 1)]; rfl
theorem Vo (s : Ax) (f i2 : Nat) : ∀ n k, Kr s f i2 n k = SlT.rRight_l1 (sT s) f i2 n k
  | 0, k => rfl
  | n + 1, k => by
    unfold Kr SlT.rRight_l1
    rw [Vo s f i2 n (k + 1), Vn]; rfl
theorem Ph (s : Ax) : ∀ n f k, Ja s n f k = SlT.rRight_l0 (sT s) n f k
  | 0, f, k => rfl
  | n + 1, f, k => by
    unfold Ja SlT.rRight_l0
    rw [Ph s n (f + 1) (k + 1), Ph s n f (k + 1)]; rfl
theorem Jn (s : Ax) : Iq s = SlT.rRight (sT s) := by
  unfold Iq SlT.rRight
  simp only [Ph, Vo]; rfl
theorem qO (s : Ax) : Iq s = SlT.rightB s.gens s.used s.free := by rw [Jn, SlT.rRight_eq]; rfl
theorem iS {s : Ax} (h : Iq s = true) : 1 ≤ s.gens.length ∧ s.gens.length ≤ 64 ∧ s.used.length = s.gens.length ∧ s.free.length ≤ 64 ∧ (s.free.length ≠ 0 → 0 ≤ s.free.getD ((s.free.length : Int) - 1).toNat default ∧ s.free.getD ((s.free.length : Int) - 1).toNat default < s.gens.length ∧ 0 ≤ s.gens.getD (s.free.getD ((s.free.length : Int) - 1).toNat default).toNat default ∧ s.gens.getD (s.free.getD ((s.free.length : Int) - 1).toNat default).toNat default ≤ 1000000000) := SlT.rRight_t (s := sT s) (by rw [← Jn]; exact h)
theorem Yr (a b : List Int) : ∀ n k, Mj a b n k = SlT.rInts_l0 a b n k
  | 0, k => rfl
  | n + 1, k => by unfold Mj SlT.rInts_l0; rw [Yr a b n (k + 1)]
theorem wF (a b : List Int) : Zu a b = SlT.rInts a b := by unfold Zu SlT.rInts; simp only [Yr]
theorem Ys (a b : Ax) : ∀ n k, Ml a b n k = SlT.rSame_l0 (sT a) (sT b) n k
  | 0, k => rfl
  | n + 1, k => by unfold Ml SlT.rSame_l0; rw [Ys a b n (k + 1)]; rfl
theorem eX (a b : Ax) : Wr a b = true ↔ a = b := by
  have e : Wr a b = SlT.rSame (sT a) (sT b) := by unfold Wr SlT.rSame; simp only [Ys, wF]; rfl
  rw [e, SlT.rSame_iff]
  exact ⟨kU, fun h => h ▸ rfl⟩
theorem aR (s : Ax) (h : Ar) : cF s h = SlT.rValid (sT s) (hT h) := by
  unfold cF SlT.rValid
  rw [Jn]; rfl
theorem aS (n : Int) (x : List Int) (y : List Bool) : ∀ f i l, Qe n x y f i l = SlT.rNew_l0 n x y f i l
  | 0, i, l => rfl
  | f + 1, i, l => by unfold Qe SlT.rNew_l0; rw [aS n x y f (i - 1)]
theorem iT (n : Int) : (sT (Lo n).1, (Lo n).2) = SlT.rNew n := by
  unfold Lo SlT.rNew
  simp only [aS]
  split
  · rfl
  · split
    · rfl
    · rfl
theorem Tg (s : Ax) : ∀ n out k, ((Lp s n out k).1.map hT, (Lp s n out k).2) = SlT.rAll_l0 (sT s) n (out.map hT) k
  | 0, out, k => rfl
  | n + 1, out, k => by
    unfold Lp SlT.rAll_l0
    rw [Jn]
    show _ = (if ((k : Nat) : Int) < ((s.gens.length : Nat) : Int) then _ else _)
    split
    · split
      · show _ = (if s.used.getD k default = true then _ else _)
        split
        · rw [Tg s n _ (k + 1)]; simp [hT, sT]
        · rw [Tg s n _ (k + 1)]
      · rfl
    · rfl
theorem iU (s : Ax) : (Il s).map hT = SlT.rAll (sT s) := by
  have h := congrArg Prod.fst (Tg s (s.gens.length + 1) [] 0)
  simpa [Il, SlT.rAll, It, sT] using h
theorem H5 (s : Ax) : (Il s).map hT = SlT.allD s.gens s.used s.free := by rw [iU, SlT.rAll_eq]; rfl
theorem qP (s : Ax) : (sT (Zv s).1, hT (Zv s).2.1, (Zv s).2.2) = SlT.rTake (sT s) := by
  unfold Zv SlT.rTake
  rw [Jn]
  repeat' split
  all_goals first | rfl | contradiction
theorem qQ (s : Ax) (h : Ar) : (sT (eQ s h).1, (eQ s h).2) = SlT.rGive (sT s) (hT h) := by
  unfold eQ SlT.rGive
  rw [Jn, aR]
  repeat' split
  all_goals first | rfl | contradiction
theorem iV (n : Int) : (Lo n).1.gens.length ≤ 64 ∧ (Lo n).1.used.length ≤ 64 ∧ (Lo n).1.free.length ≤ 64 := by
  have h := SlT.rNew_len n
  rw [← iT] at h; exact h
theorem wG (s : Ax) : (Il s).length ≤ 64 := by
  have h := SlT.rAll_len (sT s)
  rw [← iU, List.length_map] at h; exact h
end Go.Proofs.YtopjaeoklkpcpaaGreatDoor.Jd

namespace Go.Proofs.YtopjaeoklkpcpaaGreatDoor.Jd
open Go.Proofs.Tryz
open Go.Proofs
open Go.RowKit (Below)
set_option maxRecDepth 100000
set_option maxHeartbeats 8000000
set_option linter.unusedVariables false
set_option linter.unusedSimpArgs false
theorem eY (w : World) {s_gens_a : Option Addr} {s_gens_c : Nat} {s_used_a : Option Addr} {s_used_c : Nat} {s_free_a : Option Addr} {s_free_c : Nat} {s : Ax} (h_s_gens : Sl w eI 1 s_gens_a s.gens) (n_s_gens : s.gens.length ≤ 1000) (h_s_used : Sl w eB 1 s_used_a s.used) (n_s_used : s.used.length ≤ 1000) (h_s_free : Sl w eI 1 s_free_a s.free) (n_s_free : s.free.length ≤ 1000) : Hn Tryz.prog 68 [(Value.agg [(vs s_gens_a s.gens.length s_gens_c), (vs s_used_a s.used.length s_used_c), (vs s_free_a s.free.length s_free_c)].toArray)] w (Value.bool (Iq s)) := by
 have hF := Is.refl (Iq s)
 refine enter func68 ntmps68 (h := ?_)
 refine Z2 ?_
 refine Ah Ag Jp (k := fun r1 hr1 => ?_)
 refine Jr ?_
 refine yG ?_
 refine Xc ?_
 refine Rx ?_
 refine Ao 13 rfl (fun hq1 => ?_) (fun hq1 => ?_)
 ·refine Ae 2 rfl ?_
  refine Pj ?_
  refine Ae 5 rfl ?_
  refine Ro ?_
  refine Ab results68 z1 (fun w1 hw1 => ?_)
  exact ⟨(rq (hF.pos hq1)), hw1.ext_out⟩
 refine lP ?_
 refine Rv ?_
 refine Ao 17 rfl (fun hq2 => ?_) (fun hq2 => ?_)
 ·refine Ae 5 rfl ?_
  refine Ro ?_
  refine Ab results68 z1 (fun w1 hw1 => ?_)
  exact ⟨(rq ((hF.neg hq1).pos hq2)), hw1.ext_out⟩
 refine tP ?_
 refine Hf ?_
 refine Bb Lc (k := ?_)
 refine Qh ?_
 refine Au rfl (fun hq3 => ?_) (fun hq3 => ?_)
 ·refine Bg ?_
  refine Kz ?_
  refine Ab results68 z1 (fun w1 hw1 => ?_)
  exact ⟨(rq (((hF.neg hq1).neg hq2).pos hq3)), hw1.ext_out⟩
 refine Rr ?_
 refine Rw ?_
 refine Pn ?_
 refine bS (σ1 := Nat) (σ2 := Nat) (σ3 := Nat) (fun n_3 free_1 i_2 => ((r1, oc [(vs s_gens_a s.gens.length s_gens_c), (vs s_used_a s.used.length s_used_c), (vs s_free_a s.free.length s_free_c)] 25) :: [])) (fun n_3 free_1 i_2 => [(1, (Value.pointer (some ⟨r1, 0, none⟩))), (2, (Value.bool false)), (3, (vi ((s.gens.length : Nat) : Int))), (4, (vi ((free_1 : Nat) : Int))), (5, (vi ((i_2 : Nat) : Int)))]) (fun n_3 free_1 i_2 => s.gens.length - i_2 < n_3 ∧ Is (Ja s (s.gens.length + 1) 0 0) (Ja s n_3 free_1 i_2) ∧ free_1 ≤ i_2 ∧ i_2 ≤ s.gens.length) (fun n_3 free_1 i_2 => n_3) (s.gens.length + 1) 0 0 ?_ se (List.Perm.refl _) ?_
 ·exact ⟨Nat.lt_succ_self _, Is.refl _, Kh, Kh⟩
 ·rintro (_ | n_3) free_1 i_2 ⟨hm5, hF4, hi6, hi7⟩
  ·omega
  refine cU ?_
  refine Z9 ?_
  refine Au rfl (fun hq4 => ?_) (fun hq4 => ?_)
  ·refine Bq ?_
   refine Ea ?_
   refine J7 ?_
   refine Bg ?_
   refine Z2 ?_
   refine tW ?_
   refine AN6 ?_
   refine Rx ?_
   refine Ao 35 rfl (fun hq5 => ?_) (fun hq5 => ?_)
   ·refine Ae 6 rfl ?_
    refine Ro ?_
    refine lB ?_
    refine Ab results68 z1 (fun w1 hw1 => ?_)
    exact ⟨(rq ((((hF.neg hq1).neg hq2).neg hq3).er2 ((hF4.pos hq4).pos hq5))), hw1.ext_out⟩
   refine xX ?_
   refine Hf ?_
   refine Bb (Cb (n := s.gens.length) runUnderlying22 sizeOf3 i_2 gS (gD z3) Jv) (k := ?_)
   refine Bb (Bz isAgg3 i_2 0 gS (gD z3)) (k := ?_)
   refine Bb Lu (k := ?_)
   refine Qh ?_
   refine Au rfl (fun hq6 => ?_) (fun hq6 => ?_)
   ·refine Bg ?_
    refine Kz ?_
    refine lB ?_
    refine Ab results68 z1 (fun w1 hw1 => ?_)
    exact ⟨(rq ((((hF.neg hq1).neg hq2).neg hq3).er2 (((hF4.pos hq4).neg hq5).pos hq6))), hw1.ext_out⟩
   refine Rr ?_
   refine fM ?_
   refine Cg ?_
   refine AN7 ?_
   refine Rj ?_
   refine Ct rfl (fun hq7 => ?_) (fun hq7 => ?_)
   rotate_left
   ·refine Bq ?_
    refine Po ?_
    exact Nx n_3 free_1 (i_2 + 1) ⟨by omega, ((((hF4.pos hq4).neg hq5).neg hq6).f hq7), z2, z2⟩ (Nat.lt_succ_self _) se (List.Perm.refl _)
   refine Cs ?_
   refine fP ?_
   refine Po ?_
   exact Nx n_3 (free_1 + 1) (i_2 + 1) ⟨by omega, ((((hF4.pos hq4).neg hq5).neg hq6).t hq7), z2, z2⟩ (Nat.lt_succ_self _) se (List.Perm.refl _)
  refine Ca ?_
  refine oM ?_
  refine Bg ?_
  refine Pn ?_
  refine Dr (σ1 := Nat) (σ2 := Nat) (fun n_9 i_8 => ((r1, oc [(vs s_gens_a s.gens.length s_gens_c), (vs s_used_a s.used.length s_used_c), (vs s_free_a s.free.length s_free_c)] 25) :: [])) (fun n_9 i_8 => [(1, (Value.pointer (some ⟨r1, 0, none⟩))), (2, (Value.bool false)), (3, (vi ((s.gens.length : Nat) : Int))), (4, (vi ((free_1 : Nat) : Int))), (6, (vi ((i_8 : Nat) : Int)))]) (fun n_9 i_8 => s.free.length - i_8 < n_9 ∧ Is (Kr s free_1 i_2 (s.free.length + 1) 0) (Kr s free_1 i_2 n_9 i_8) ∧ i_8 ≤ s.free.length) (fun n_9 i_8 => n_9) (s.free.length + 1) 0 ?_ se (List.Perm.refl _) ?_
  ·exact ⟨Nat.lt_succ_self _, Is.refl _, Kh⟩
  ·rintro (_ | n_9) i_8 ⟨hm11, hF10, hi12⟩
   ·omega
   refine fT ?_
   refine lO ?_
   refine Z9 ?_
   refine Au rfl (fun hq8 => ?_) (fun hq8 => ?_)
   rotate_left
   ·refine Ca ?_
    refine oM ?_
    refine Z2 ?_
    refine lO ?_
    refine Cg ?_
    refine Zg ?_
    refine Z6 ?_
    refine Ab results68 z1 (fun w1 hw1 => ?_)
    exact ⟨(rq (((((hF.neg hq1).neg hq2).neg hq3).ok2 (hF4.neg hq4)).ok1 (hF10.neg hq8))), hw1.ext_out⟩
   refine jJ ?_
   refine Bg ?_
   refine Fi Da 26 [(true, 0), (true, 1), (true, 2), (true, 3), (true, 4), (true, 5), (true, 6), (true, 7), (true, 8), (true, 9), (true, 10), (true, 11), (true, 12), (true, 13), (true, 14), (true, 15), (true, 16), (true, 17), (true, 18), (true, 19), (true, 20), (true, 21), (true, 22), (true, 23), (true, 24), (true, 25)] z4 ?_
   refine jE ?_
   refine Gu ?_
   refine AN8 ?_
   refine tS ?_
   refine Fm 64 rfl (fun hq9 => ?_) (fun hq9 => ?_)
   ·refine Bm 7 rfl ?_
    refine fH ?_
    refine Bm 9 rfl ?_
    refine bB ?_
    refine Zc ?_
    refine Pi ?_
    refine lB ?_
    refine Ab results68 z1 (fun w1 hw1 => ?_)
    exact ⟨(rq (((((hF.neg hq1).neg hq2).neg hq3).ok2 (hF4.neg hq4)).er1 ((hF10.pos hq8).pos hq9))), hw1.ext_out⟩
   refine yJ ?_
   refine AN3 ?_
   refine Mq ?_
   refine Bl Ki (k := ?_)
   refine oL ?_
   refine Fm 73 rfl (fun hq10 => ?_) (fun hq10 => ?_)
   ·refine Bm 9 rfl ?_
    refine bB ?_
    refine Zc ?_
    refine Pi ?_
    refine lB ?_
    refine Ab results68 z1 (fun w1 hw1 => ?_)
    exact ⟨(rq (((((hF.neg hq1).neg hq2).neg hq3).ok2 (hF4.neg hq4)).er1 (((hF10.pos hq8).neg hq9).pos hq10))), hw1.ext_out⟩
   refine Bl (Ai Qu) (k := ?_)
   refine Bl (Bv isAgg23) (k := ?_)
   refine yJ ?_
   refine AN3 ?_
   refine Bl (Cb (n := s.used.length) runUnderlying23 sizeOf4 ((s.free.getD i_8 default).toNat) kY (gD z3) Jv) (k := ?_)
   refine Bl (Bz isAgg4 ((s.free.getD i_8 default).toNat) 0 kY (gD z3)) (k := ?_)
   refine Xf ?_
   refine Ct rfl (fun hq11 => ?_) (fun hq11 => ?_)
   ·refine Bg ?_
    refine Kz ?_
    refine lB ?_
    refine Ab results68 z1 (fun w1 hw1 => ?_)
    exact ⟨(rq (((((hF.neg hq1).neg hq2).neg hq3).ok2 (hF4.neg hq4)).er1 ((((hF10.pos hq8).neg hq9).neg hq10).t hq11))), hw1.ext_out⟩
   refine aY ?_
   refine Pn ?_
   refine Dr (σ1 := Nat) (σ2 := Nat) (fun n_14 k_13 => ((r1, oc [(vs s_gens_a s.gens.length s_gens_c), (vs s_used_a s.used.length s_used_c), (vs s_free_a s.free.length s_free_c)] 25) :: [])) (fun n_14 k_13 => [(1, (Value.pointer (some ⟨r1, 0, none⟩))), (2, (Value.bool false)), (3, (vi ((s.gens.length : Nat) : Int))), (4, (vi ((free_1 : Nat) : Int))), (6, (vi ((i_8 : Nat) : Int))), (7, (vi ((k_13 : Nat) : Int)))]) (fun n_14 k_13 => i_8 - k_13 < n_14 ∧ Is (Kq s free_1 i_2 i_8 (i_8 + 1) 0) (Kq s free_1 i_2 i_8 n_14 k_13) ∧ k_13 ≤ i_8) (fun n_14 k_13 => n_14) (i_8 + 1) 0 ?_ se (List.Perm.refl _) ?_
   ·exact ⟨Nat.lt_succ_self _, Is.refl _, Kh⟩
   ·rintro (_ | n_14) k_13 ⟨hm16, hF15, hi17⟩
    ·omega
    refine cU ?_
    refine Z9 ?_
    refine Au rfl (fun hq12 => ?_) (fun hq12 => ?_)
    rotate_left
    ·refine Ca ?_
     refine Z40 ?_
     refine Po ?_
     exact Dp n_9 (i_8 + 1) ⟨by omega, (((((hF10.pos hq8).neg hq9).neg hq10).f hq11).ok1 (hF15.neg hq12)), z2⟩ (Nat.lt_succ_self _) se (List.Perm.refl _)
    refine AP4 ?_
    refine jE ?_
    refine Gu ?_
    refine Aw (Cb (n := s.free.length) runUnderlying22 sizeOf3 k_13 wZ (gD z3) Jv) (k := ?_)
    refine Aw (Bz isAgg3 k_13 0 wZ (gD z3)) (k := ?_)
    refine jE ?_
    refine Gu ?_
    refine AN8 ?_
    refine Aw Nv (k := ?_)
    refine Xd ?_
    refine Au rfl (fun hq13 => ?_) (fun hq13 => ?_)
    rotate_left
    ·refine Bq ?_
     refine Po ?_
     exact Dp n_14 (k_13 + 1) ⟨by omega, ((hF15.pos hq12).neg hq13), z2⟩ (Nat.lt_succ_self _) se (List.Perm.refl _)
    refine Vw ?_
    refine Z41 ?_
    refine Cy ?_
    refine lB ?_
    refine Ab results68 z1 (fun w1 hw1 => ?_)
    exact ⟨(rq (((((hF.neg hq1).neg hq2).neg hq3).ok2 (hF4.neg hq4)).er1 (((((hF10.pos hq8).neg hq9).neg hq10).f hq11).er1 ((hF15.pos hq12).pos hq13)))), hw1.ext_out⟩

theorem iW (w : World) {a_a : Option Addr} {a_c : Nat} {b_a : Option Addr} {b_c : Nat} {a : List Int} {b : List Int} (h_a : Sl w eI 1 a_a a) (n_a : a.length ≤ 1000) (h_b : Sl w eI 1 b_a b) (n_b : b.length ≤ 1000) : Hn Tryz.prog 81 [(vs a_a a.length a_c), (vs b_a b.length b_c)] w (Value.bool (Zu a b)) := by
 have hF := Is.refl (Zu a b)
 refine enter func81 ntmps81 (h := ?_)
 refine Ig ?_
 refine gA ?_
 refine Cg ?_
 refine gA ?_
 refine Vy ?_
 refine Au rfl (fun hq1 => ?_) (fun hq1 => ?_)
 ·refine Bg ?_
  refine Kz ?_
  refine Ab results81 z1 (fun w1 hw1 => ?_)
  exact ⟨(rq (hF.pos hq1)), hw1.ext_out⟩
 refine Js ?_
 refine Pn ?_
 refine Dr (σ1 := Nat) (σ2 := Nat) (fun n_2 i_1 => []) (fun n_2 i_1 => [(0, (vs a_a a.length a_c)), (1, (vs b_a b.length b_c)), (4, (Value.bool false)), (5, (vi ((i_1 : Nat) : Int)))]) (fun n_2 i_1 => a.length - i_1 < n_2 ∧ Is (Mj a b (a.length + 1) 0) (Mj a b n_2 i_1) ∧ i_1 ≤ a.length) (fun n_2 i_1 => n_2) (a.length + 1) 0 ?_ se (List.Perm.refl _) ?_
 ·exact ⟨Nat.lt_succ_self _, Is.refl _, Kh⟩
 ·rintro (_ | n_2) i_1 ⟨hm4, hF3, hi5⟩
  ·omega
  refine cU ?_
  refine gA ?_
  refine Z9 ?_
  refine Au rfl (fun hq2 => ?_) (fun hq2 => ?_)
  rotate_left
  ·refine Ca ?_
   refine La ?_
   refine Ab results81 z1 (fun w1 hw1 => ?_)
   exact ⟨(rq ((hF.neg hq1).ok1 (hF3.neg hq2))), hw1.ext_out⟩
  refine jJ ?_
  refine Y2 ?_
  refine Aw (Cb (n := a.length) runUnderlying22 sizeOf3 i_1 (Bp.of_base h_a) (gD z3) Jv) (k := ?_)
  refine Aw (Bz isAgg3 i_1 0 (Bp.of_base h_a) (gD z3)) (k := ?_)
  refine Xa ?_
  refine Aw (Cb (n := b.length) runUnderlying22 sizeOf3 i_1 (Bp.of_base h_b) (gD z3) Jv) (k := ?_)
  refine Aw (Bz isAgg3 i_1 0 (Bp.of_base h_b) (gD z3)) (k := ?_)
  refine Aw Lc (k := ?_)
  refine Xd ?_
  refine Au rfl (fun hq3 => ?_) (fun hq3 => ?_)
  rotate_left
  ·refine Bq ?_
   refine Po ?_
   exact Dp n_2 (i_1 + 1) ⟨by omega, ((hF3.pos hq2).neg hq3), z2⟩ (Nat.lt_succ_self _) se (List.Perm.refl _)
  refine Sa ?_
  refine Ab results81 z1 (fun w1 hw1 => ?_)
  exact ⟨(rq ((hF.neg hq1).er1 ((hF3.pos hq2).pos hq3))), hw1.ext_out⟩

theorem wH (w : World) {a_gens_a : Option Addr} {a_gens_c : Nat} {a_used_a : Option Addr} {a_used_c : Nat} {a_free_a : Option Addr} {a_free_c : Nat} {b_gens_a : Option Addr} {b_gens_c : Nat} {b_used_a : Option Addr} {b_used_c : Nat} {b_free_a : Option Addr} {b_free_c : Nat} {a : Ax} {b : Ax} (h_a_gens : Sl w eI 1 a_gens_a a.gens) (n_a_gens : a.gens.length ≤ 1000) (h_a_used : Sl w eB 1 a_used_a a.used) (n_a_used : a.used.length ≤ 1000) (h_a_free : Sl w eI 1 a_free_a a.free) (n_a_free : a.free.length ≤ 1000) (h_b_gens : Sl w eI 1 b_gens_a b.gens) (n_b_gens : b.gens.length ≤ 1000) (h_b_used : Sl w eB 1 b_used_a b.used) (n_b_used : b.used.length ≤ 1000) (h_b_free : Sl w eI 1 b_free_a b.free) (n_b_free : b.free.length ≤ 1000) : Hn Tryz.prog 45 [(Value.agg [(vs a_gens_a a.gens.length a_gens_c), (vs a_used_a a.used.length a_used_c), (vs a_free_a a.free.length a_free_c)].toArray), (Value.agg [(vs b_gens_a b.gens.length b_gens_c), (vs b_used_a b.used.length b_used_c), (vs b_free_a b.free.length b_free_c)].toArray)] w (Value.bool (Wr a b)) := by
 have hF := Is.refl (Wr a b)
 refine enter func45 ntmps45 (h := ?_)
 refine Z2 ?_
 refine Ah Ag Jp (k := fun r1 hr1 => ?_)
 refine Ah Ag Jp (k := fun r2 hr2 => ?_)
 refine cV ?_
 refine Z92 ?_
 refine Z92 ?_
 refine Fu (Ad call81) (fun w1 hw1 => iW w1 (a := a.gens) (b := b.gens) (h_a := (Bp.of_base h_a_gens) w1 hw1) (n_a := z6) (h_b := (Bp.of_base h_b_gens) w1 hw1) (n_b := z6)) (k := ?_)
 refine oT ?_
 refine Di 12 rfl (fun hq1 => ?_) (fun hq1 => ?_)
 ·refine Ae 6 rfl ?_
  refine Pj ?_
  refine Ae 7 rfl ?_
  refine Ro ?_
  refine Ab results45 z1 (fun w1 hw1 => ?_)
  exact ⟨(rq (hF.t hq1)), hw1.ext_out⟩
 refine N6 ?_
 refine N6 ?_
 refine Ih (Ad call81) (fun w1 hw1 => iW w1 (a := a.free) (b := b.free) (h_a := (Bp.of_base h_a_free) w1 hw1) (n_a := z6) (h_b := (Bp.of_base h_b_free) w1 hw1) (n_b := z6)) (k := ?_)
 refine Bb Lv (k := ?_)
 refine Rv ?_
 refine Di 20 rfl (fun hq2 => ?_) (fun hq2 => ?_)
 ·refine Ae 7 rfl ?_
  refine Ro ?_
  refine Ab results45 z1 (fun w1 hw1 => ?_)
  exact ⟨(rq ((hF.f hq1).t hq2)), hw1.ext_out⟩
 refine tP ?_
 refine tP ?_
 refine Bb Lc (k := ?_)
 refine Qh ?_
 refine Au rfl (fun hq3 => ?_) (fun hq3 => ?_)
 ·refine Bg ?_
  refine Kz ?_
  refine Ab results45 z1 (fun w1 hw1 => ?_)
  exact ⟨(rq (((hF.f hq1).f hq2).pos hq3)), hw1.ext_out⟩
 refine Js ?_
 refine Pn ?_
 refine Dr (σ1 := Nat) (σ2 := Nat) (fun n_2 i_1 => ((r2, oc [(vs b_gens_a b.gens.length b_gens_c), (vs b_used_a b.used.length b_used_c), (vs b_free_a b.free.length b_free_c)] 25) :: ((r1, oc [(vs a_gens_a a.gens.length a_gens_c), (vs a_used_a a.used.length a_used_c), (vs a_free_a a.free.length a_free_c)] 25) :: []))) (fun n_2 i_1 => [(2, (Value.pointer (some ⟨r1, 0, none⟩))), (3, (Value.pointer (some ⟨r2, 0, none⟩))), (4, (Value.bool false)), (5, (vi ((i_1 : Nat) : Int)))]) (fun n_2 i_1 => a.used.length - i_1 < n_2 ∧ Is (Ml a b (a.used.length + 1) 0) (Ml a b n_2 i_1) ∧ i_1 ≤ a.used.length) (fun n_2 i_1 => n_2) (a.used.length + 1) 0 ?_ se (List.Perm.refl _) ?_
 ·exact ⟨Nat.lt_succ_self _, Is.refl _, Kh⟩
 ·rintro (_ | n_2) i_1 ⟨hm4, hF3, hi5⟩
  ·omega
  refine fT ?_
  refine fM ?_
  refine Af (Ei runUnderlying23) (k := ?_)
  refine Z9 ?_
  refine Au rfl (fun hq4 => ?_) (fun hq4 => ?_)
  rotate_left
  ·refine Ca ?_
   refine La ?_
   refine Ab results45 z1 (fun w1 hw1 => ?_)
   exact ⟨(rq ((((hF.f hq1).f hq2).neg hq3).ok1 (hF3.neg hq4))), hw1.ext_out⟩
  refine AP4 ?_
  refine lM ?_
  refine Gu ?_
  refine Aw (Cb (n := a.used.length) runUnderlying23 sizeOf4 i_1 (Bp.of_base h_a_used) (gD z3) Jv) (k := ?_)
  refine Aw (Bz isAgg4 i_1 0 (Bp.of_base h_a_used) (gD z3)) (k := ?_)
  refine lM ?_
  refine Gu ?_
  refine Aw (Cb (n := b.used.length) runUnderlying23 sizeOf4 i_1 (Bp.of_base h_b_used) (gD z3) Jv) (k := ?_)
  refine Aw (Bz isAgg4 i_1 0 (Bp.of_base h_b_used) (gD z3)) (k := ?_)
  refine Aw (yT runUnderlying4) (k := ?_)
  refine Xd ?_
  refine Ct rfl (fun hq5 => ?_) (fun hq5 => ?_)
  rotate_left
  ·refine Bq ?_
   refine Po ?_
   exact Dp n_2 (i_1 + 1) ⟨by omega, ((hF3.pos hq4).f hq5), z2⟩ (Nat.lt_succ_self _) se (List.Perm.refl _)
  refine Sa ?_
  refine Ab results45 z1 (fun w1 hw1 => ?_)
  exact ⟨(rq ((((hF.f hq1).f hq2).neg hq3).er1 ((hF3.pos hq4).t hq5))), hw1.ext_out⟩

theorem H6 (w : World) {n_ : Int} : Calls Tryz.prog 65 (List.toArray [(vi n_)]) w fun e w2 => ∃ a1 : Option Addr, ∃ c1 : Nat, ∃ a2 : Option Addr, ∃ c2 : Nat, ∃ a3 : Option Addr, ∃ c3 : Nat, ∃ B1 : Aj, ∃ B2 : Aj, ∃ B3 : Aj, e = .returned (Value.tuple [(Value.agg [(vs a1 ((Lo n_).1.gens.length) c1), (vs a2 ((Lo n_).1.used.length) c2), (vs a3 ((Lo n_).1.free.length) c3)].toArray), (vi ((Lo n_).2))].toArray) ∧ Dh w w2 (B1 ++ (B2 ++ B3)) ∧ Bi eI 1 3 a1 c1 B1 (Lo n_).1.gens ∧ Bi eB 1 4 a2 c2 B2 (Lo n_).1.used ∧ Bi eI 1 3 a3 c3 B3 (Lo n_).1.free := by
 have hF := Is.refl (Lo n_)
 refine enter func65 ntmps65 (h := ?_)
 refine Z2 ?_
 refine Ah Ag jB (k := fun r1 hr1 => ?_)
 refine Xc ?_
 refine Rx ?_
 refine Ao 8 rfl (fun hq1 => ?_) (fun hq1 => ?_)
 ·refine Ae 2 rfl ?_
  refine Xe ?_
  refine tI ?_
  refine Pi ?_
  refine Ab results65 (Fb.agg isAgg25 sizeOf25 rfl me rfl z1) (fun w1 hw1 => ?_)
  exact ⟨none, 0, none, 0, none, 0, [], [], [], (rq (hF.pos hq1)), (hw1.fresh_out.sub Nr), (ro (hF.pos hq1)), (ro (hF.pos hq1)), (ro (hF.pos hq1))⟩
 refine lP ?_
 refine Qh ?_
 refine Au rfl (fun hq2 => ?_) (fun hq2 => ?_)
 ·refine Bg ?_
  refine Cs ?_
  refine tI ?_
  refine Pi ?_
  refine Ab results65 (Fb.agg isAgg25 sizeOf25 rfl me rfl z1) (fun w1 hw1 => ?_)
  exact ⟨none, 0, none, 0, none, 0, [], [], [], (rq ((hF.neg hq1).pos hq2)), (hw1.fresh_out.sub Nr), (ro ((hF.neg hq1).pos hq2)), (ro ((hF.neg hq1).pos hq2)), (ro ((hF.neg hq1).pos hq2))⟩
 refine Js ?_
 refine rS (σ1 := List Int) (σ2 := Option Addr) (σ3 := Nat) (σ4 := Aj) (σ5 := List Bool) (σ6 := Option Addr) (σ7 := Nat) (σ8 := Aj) (σ9 := Nat) (fun x_1 x_1a x_1c x_1B x_2 x_2a x_2c x_2B r122 => (x_2B ++ (x_1B ++ ((r122, oc [(vs x_1a x_1.length x_1c), (vs x_2a x_2.length x_2c), (vs none 0 0)] 25) :: ((r1, oc [(vs none 0 0), (vs none 0 0), (vs none 0 0)] 25) :: []))))) (fun x_1 x_1a x_1c x_1B x_2 x_2a x_2c x_2B r122 => [(0, (vi n_)), (2, (Value.pointer (some ⟨r1, 0, none⟩))), (3, (vi 0)), (4, (Value.pointer (some ⟨r122, 0, none⟩)))]) (fun x_1 x_1a x_1c x_1B x_2 x_2a x_2c x_2B r122 => Is (Is.xr2 ((hF.neg hq1).neg hq2)) (x_1, x_2) ∧ Bi eI 1 3 x_1a x_1c x_1B x_1 ∧ Bi eB 1 4 x_2a x_2c x_2B x_2) ?_ ?_
 ·skip
  refine Xo (V := []) Da 6 z4 ?_
  refine AE7 ?_
  refine Cr [1, 3, 5] z4 rfl (List.forall_mem_cons.2 ⟨?_, (List.forall_mem_cons.2 ⟨?_, (List.forall_mem_cons.2 ⟨?_, nofun⟩)⟩)⟩)
  ·skip
   refine Ff rfl (n := n_.toNat) (x0 := default) Fo underlying22 Bh rfl ⟨by omega, by omega⟩ (k := fun ax41 Bx41 hox41 => ?_)
   refine Cr [3, 5] z4 rfl (List.forall_mem_cons.2 ⟨?_, (List.forall_mem_cons.2 ⟨?_, nofun⟩)⟩)
   ·skip
    refine Ff rfl (n := n_.toNat) (x0 := default) eJ underlying23 Gh rfl ⟨by omega, by omega⟩ (k := fun ax81 Bx81 hox81 => ?_)
    refine yM ?_
    refine Cr [5] z4 rfl (List.forall_mem_cons.2 ⟨?_, nofun⟩)
    ·skip
     refine Lf rfl Ag jB (k := fun r122 hr122 => ?_)
     refine Z94 ?_
     refine Eh ?_
     refine Ci _ ((((qa (qc (qc q0))).trans (qa q0)).trans (qb (qb (qd q0)))).trans (qd (qb (qb q0)))) ?_
     exact Ha (List.replicate n_.toNat (default : Int)) ax41 n_.toNat Bx41 (List.replicate n_.toNat (default : Bool)) ax81 n_.toNat Bx81 r122 ⟨(Is.refl (Is.xr2 ((hF.neg hq1).neg hq2))), hox41, hox81⟩ se (List.Perm.refl _)
   ·skip
    refine Lf rfl Ag jB (k := fun r122 hr122 => ?_)
    refine Cr [3] z4 rfl (List.forall_mem_cons.2 ⟨?_, nofun⟩)
    ·skip
     refine Ff rfl (n := n_.toNat) (x0 := default) eJ underlying23 Gh rfl ⟨by omega, by omega⟩ (k := fun ax81 Bx81 hox81 => ?_)
     refine lX ?_
     refine Ci _ ((((qc (qa (qc q0))).trans (qa (qc q0))).trans (qb (qb (qd q0)))).trans (qd (qb (qb q0)))) ?_
     exact Ha (List.replicate n_.toNat (default : Int)) ax41 n_.toNat Bx41 (List.replicate n_.toNat (default : Bool)) ax81 n_.toNat Bx81 r122 ⟨(Is.refl (Is.xr2 ((hF.neg hq1).neg hq2))), hox41, hox81⟩ se (List.Perm.refl _)
  ·skip
   refine Ff rfl (n := n_.toNat) (x0 := default) eJ underlying23 Gh rfl ⟨by omega, by omega⟩ (k := fun ax81 Bx81 hox81 => ?_)
   refine Cr [1, 5] z4 rfl (List.forall_mem_cons.2 ⟨?_, (List.forall_mem_cons.2 ⟨?_, nofun⟩)⟩)
   ·skip
    refine Ff rfl (n := n_.toNat) (x0 := default) Fo underlying22 Bh rfl ⟨by omega, by omega⟩ (k := fun ax41 Bx41 hox41 => ?_)
    refine yM ?_
    refine Cr [5] z4 rfl (List.forall_mem_cons.2 ⟨?_, nofun⟩)
    ·skip
     refine Lf rfl Ag jB (k := fun r122 hr122 => ?_)
     refine Z94 ?_
     refine Eh ?_
     refine Ci _ ((((qa (qc (qc q0))).trans (qa q0)).trans (qb (qb q0))).trans (qd (qb (qb q0)))) ?_
     exact Ha (List.replicate n_.toNat (default : Int)) ax41 n_.toNat Bx41 (List.replicate n_.toNat (default : Bool)) ax81 n_.toNat Bx81 r122 ⟨(Is.refl (Is.xr2 ((hF.neg hq1).neg hq2))), hox41, hox81⟩ se (List.Perm.refl _)
   ·skip
    refine Lf rfl Ag jB (k := fun r122 hr122 => ?_)
    refine Cr [1] z4 rfl (List.forall_mem_cons.2 ⟨?_, nofun⟩)
    ·skip
     refine Ff rfl (n := n_.toNat) (x0 := default) Fo underlying22 Bh rfl ⟨by omega, by omega⟩ (k := fun ax41 Bx41 hox41 => ?_)
     refine lX ?_
     refine Ci _ ((((qc (qa (qc q0))).trans (qa (qc q0))).trans (qb (qb q0))).trans (qd (qb (qb q0)))) ?_
     exact Ha (List.replicate n_.toNat (default : Int)) ax41 n_.toNat Bx41 (List.replicate n_.toNat (default : Bool)) ax81 n_.toNat Bx81 r122 ⟨(Is.refl (Is.xr2 ((hF.neg hq1).neg hq2))), hox41, hox81⟩ se (List.Perm.refl _)
  ·skip
   refine Lf rfl Ag jB (k := fun r122 hr122 => ?_)
   refine Cr [1, 3] z4 rfl (List.forall_mem_cons.2 ⟨?_, (List.forall_mem_cons.2 ⟨?_, nofun⟩)⟩)
   ·skip
    refine Ff rfl (n := n_.toNat) (x0 := default) Fo underlying22 Bh rfl ⟨by omega, by omega⟩ (k := fun ax41 Bx41 hox41 => ?_)
    refine Cr [3] z4 rfl (List.forall_mem_cons.2 ⟨?_, nofun⟩)
    ·skip
     refine Ff rfl (n := n_.toNat) (x0 := default) eJ underlying23 Gh rfl ⟨by omega, by omega⟩ (k := fun ax81 Bx81 hox81 => ?_)
     refine lX ?_
     exact Ha (List.replicate n_.toNat (default : Int)) ax41 n_.toNat Bx41 (List.replicate n_.toNat (default : Bool)) ax81 n_.toNat Bx81 r122 ⟨(Is.refl (Is.xr2 ((hF.neg hq1).neg hq2))), hox41, hox81⟩ se (List.Perm.refl _)
   ·skip
    refine Ff rfl (n := n_.toNat) (x0 := default) eJ underlying23 Gh rfl ⟨by omega, by omega⟩ (k := fun ax81 Bx81 hox81 => ?_)
    refine Cr [1] z4 rfl (List.forall_mem_cons.2 ⟨?_, nofun⟩)
    ·skip
     refine Ff rfl (n := n_.toNat) (x0 := default) Fo underlying22 Bh rfl ⟨by omega, by omega⟩ (k := fun ax41 Bx41 hox41 => ?_)
     refine lX ?_
     refine Ci _ ((((qc (qc (qa q0))).trans (qa (qc (qc q0)))).trans (qb (qb q0))).trans (qd (qb (qb q0)))) ?_
     exact Ha (List.replicate n_.toNat (default : Int)) ax41 n_.toNat Bx41 (List.replicate n_.toNat (default : Bool)) ax81 n_.toNat Bx81 r122 ⟨(Is.refl (Is.xr2 ((hF.neg hq1).neg hq2))), hox41, hox81⟩ se (List.Perm.refl _)
 rintro x_1 x_1a x_1c x_1B x_2 x_2a x_2c x_2B r122 ⟨hJ3, hx_1, hx_2⟩
 refine cT ?_
 refine Z4 ?_
 refine bJ ?_
 refine Z1 ?_
 refine Jx ?_
 refine Ny (σ1 := Nat) (σ2 := Int) (σ3 := List Int) (σ4 := Option Addr) (σ5 := Nat) (σ6 := Aj) (fun n_6 i_4 x_5 x_5a x_5c x_5B => (x_5B ++ (x_2B ++ (x_1B ++ ((r122, oc [(vs x_1a x_1.length x_1c), (vs x_2a x_2.length x_2c), (vs x_5a x_5.length x_5c)] 25) :: ((r1, oc [(vs none 0 0), (vs none 0 0), (vs none 0 0)] 25) :: [])))))) (fun n_6 i_4 x_5 x_5a x_5c x_5B => [(2, (Value.pointer (some ⟨r1, 0, none⟩))), (3, (vi 0)), (4, (Value.pointer (some ⟨r122, 0, none⟩))), (5, (vi i_4))]) (fun n_6 i_4 x_5 x_5a x_5c x_5B => (i_4 + 1).toNat < n_6 ∧ Is (Qe n_ x_1 x_2 (((n_ - 1) + 1).toNat + 1) (n_ - 1) []) (Qe n_ x_1 x_2 n_6 i_4 x_5) ∧ Bi eI 1 3 x_5a x_5c x_5B x_5 ∧ -1 ≤ i_4 ∧ i_4 ≤ 63 ∧ (x_5.length : Int) + i_4 ≤ 63) (fun n_6 i_4 x_5 x_5a x_5c x_5B => n_6) (((n_ - 1) + 1).toNat + 1) (n_ - 1) ([]) none 0 ([]) ?_ se (List.Perm.refl _) ?_
 ·exact ⟨Nat.lt_succ_self _, Is.refl _, Bi.nil, Ri, Ri⟩
 ·rintro (_ | n_6) i_4 x_5 x_5a x_5c x_5B ⟨hm8, hF7, hx_5, hi9, hi10⟩
  ·omega
  refine fT ?_
  refine Af Ki (k := ?_)
  refine Z0 ?_
  refine Au rfl (fun hq3 => ?_) (fun hq3 => ?_)
  rotate_left
  ·refine Ca ?_
   refine oM ?_
   refine Z2 ?_
   refine xQ ?_
   refine Z6 ?_
   refine Ab results65 (Fb.agg isAgg25 sizeOf25 rfl me rfl z1) (fun w1 hw1 => ?_)
   exact ⟨x_1a, x_1c, x_2a, x_2c, x_5a, x_5c, x_1B, x_2B, x_5B, (rq ((((hF.neg hq1).neg hq2).rn2 hJ3).rn2 (hF7.neg hq3))), (Ba (L := (x_1B ++ (x_2B ++ x_5B))) (hw1.perm ((q0.trans (qd q0)).trans (qd (qd q0)))) (nA (nA rfl)).symm), (by rw [((((hF.neg hq1).neg hq2).rn2 hJ3).rn2 (hF7.neg hq3)).eq]; exact hx_1), (by rw [((((hF.neg hq1).neg hq2).rn2 hJ3).rn2 (hF7.neg hq3)).eq]; exact hx_2), (by rw [((((hF.neg hq1).neg hq2).rn2 hJ3).rn2 (hF7.neg hq3)).eq]; exact hx_5)⟩
  refine fJ ?_
  refine Cs ?_
  refine L1 ?_
  refine Cg ?_
  refine Ah Ag Zb (k := fun r162 hr162 => ?_)
  refine Az (x_5 ++ ([i_4] : List Int)) rfl Fo underlying22 Bh hx_5 (qb q0) (Bp.lit (xs := ([i_4] : List Int)) Bh) ⟨by omega, by omega⟩ (n := x_5.length) (m := 1) (k := fun ax161 cx161 Bx161 hox161 => ?_)
  have hal161 : (x_5 ++ ([i_4] : List Int)).length = x_5.length + 1 := by first | rfl | exact List.length_append | simp
  refine xS ?_
  refine Eh ?_
  refine Xb ?_
  refine Fk _ (sa (sd (sa (sa (sk (sk sz)))))) ?_
  refine fQ ?_
  refine bJ ?_
  refine Wz ?_
  exact Kt n_6 (i_4 - 1) (x_5 ++ ([i_4] : List Int)) ax161 cx161 Bx161 ⟨by omega, (hF7.pos hq3), hox161, Ri, Ri⟩ (Nat.lt_succ_self _) se (List.Perm.refl _)

theorem H7 (w : World) {s_gens_a : Option Addr} {s_gens_c : Nat} {s_used_a : Option Addr} {s_used_c : Nat} {s_free_a : Option Addr} {s_free_c : Nat} {s : Ax} (h_s_gens : Sl w eI 1 s_gens_a s.gens) (n_s_gens : s.gens.length ≤ 1000) (h_s_used : Sl w eB 1 s_used_a s.used) (n_s_used : s.used.length ≤ 1000) (h_s_free : Sl w eI 1 s_free_a s.free) (n_s_free : s.free.length ≤ 1000) : Calls Tryz.prog 67 (List.toArray [(Value.agg [(vs s_gens_a s.gens.length s_gens_c), (vs s_used_a s.used.length s_used_c), (vs s_free_a s.free.length s_free_c)].toArray)]) w fun e w2 => ∃ a1 : Option Addr, ∃ c1 : Nat, ∃ B1 : Aj, e = .returned (vs a1 ((Il s).length) c1) ∧ Dh w w2 B1 ∧ Bi Yh 2 42 a1 c1 B1 (Il s) := by
 have hF := Is.refl (Il s)
 refine enter func67 ntmps67 (h := ?_)
 refine Z2 ?_
 refine Ah Ag Jp (k := fun r1 hr1 => ?_)
 refine Jr ?_
 refine Rw ?_
 refine Pn ?_
 refine Ny (σ1 := Nat) (σ2 := List Ar) (σ3 := Option Addr) (σ4 := Nat) (σ5 := Aj) (σ6 := Nat) (fun n_3 out_1 out_1a out_1c out_1B i_2 => (out_1B ++ ((r1, oc [(vs s_gens_a s.gens.length s_gens_c), (vs s_used_a s.used.length s_used_c), (vs s_free_a s.free.length s_free_c)] 25) :: []))) (fun n_3 out_1 out_1a out_1c out_1B i_2 => [(1, (Value.pointer (some ⟨r1, 0, none⟩))), (2, (vs none 0 0)), (3, (vs out_1a out_1.length out_1c)), (4, (vi ((i_2 : Nat) : Int)))]) (fun n_3 out_1 out_1a out_1c out_1B i_2 => s.gens.length - i_2 < n_3 ∧ Is (Lp s (s.gens.length + 1) [] 0) (Lp s n_3 out_1 i_2) ∧ Bi Yh 2 42 out_1a out_1c out_1B out_1 ∧ out_1.length ≤ i_2 ∧ i_2 ≤ s.gens.length) (fun n_3 out_1 out_1a out_1c out_1B i_2 => n_3) (s.gens.length + 1) ([]) none 0 ([]) 0 ?_ se (List.Perm.refl _) ?_
 ·exact ⟨Nat.lt_succ_self _, Is.refl _, Bi.nil, Ri, Ri⟩
 ·rintro (_ | n_3) out_1 out_1a out_1c out_1B i_2 ⟨hm5, hF4, hout_1, hi6, hi7⟩
  ·omega
  refine fT ?_
  refine yG ?_
  refine Rx ?_
  refine Ao 10 rfl (fun hq1 => ?_) (fun hq1 => ?_)
  rotate_left
  ·refine Ae 2 rfl ?_
   refine Qh ?_
   refine tF ?_
   refine bF ?_
   refine Ab results67 z1 (fun w1 hw1 => ?_)
   exact ⟨out_1a, out_1c, out_1B, (rq (hF.rn2 (hF4.neg hq1))), (Ba (L := out_1B) (hw1.perm (List.Perm.refl _)) rfl.symm), (by rw [(hF.rn2 (hF4.neg hq1)).eq]; exact hout_1)⟩
  refine Bb z66 (k := ?_)
  refine Ih (Ad call68) (fun w1 hw1 => eY w1 (s := s) (h_s_gens := (Bp.of_base h_s_gens) w1 hw1) (n_s_gens := z6) (h_s_used := (Bp.of_base h_s_used) w1 hw1) (n_s_used := z6) (h_s_free := (Bp.of_base h_s_free) w1 hw1) (n_s_free := z6)) (k := ?_)
  refine xB ?_
  refine Ct rfl (fun hq2 => ?_) (fun hq2 => ?_)
  rotate_left
  ·refine Ca ?_
   refine bF ?_
   refine Ab results67 z1 (fun w1 hw1 => ?_)
   exact ⟨out_1a, out_1c, out_1B, (rq (hF.rn2 ((hF4.pos hq1).f hq2))), (Ba (L := out_1B) (hw1.perm (List.Perm.refl _)) rfl.symm), (by rw [(hF.rn2 ((hF4.pos hq1).f hq2)).eq]; exact hout_1)⟩
  have hfhq2 := iS hq2
  refine xC ?_
  refine fM ?_
  refine Cg ?_
  refine AN7 ?_
  refine Z0 ?_
  refine Ct rfl (fun hq3 => ?_) (fun hq3 => ?_)
  rotate_left
  ·refine Bq ?_
   refine Po ?_
   exact Kt n_3 out_1 out_1a out_1c out_1B (i_2 + 1) ⟨by omega, (((hF4.pos hq1).t hq2).f hq3), hout_1, Ri, Ri⟩ (Nat.lt_succ_self _) se (List.Perm.refl _)
  refine lN ?_
  refine tW ?_
  refine AN6 ?_
  refine Af z68 (k := ?_)
  refine Ah Ag (Eb (l := [_, _]) runUnderlying90 sizeOf42 zeroValue42) (k := fun r2 hr2 => ?_)
  refine Az (out_1 ++ ([(Ar.mk ((i_2 : Nat) : Int) (s.gens.getD i_2 default))] : List Ar)) rfl AA4 underlying90 Iz hout_1 (qb q0) (Bp.lit (xs := ([(Ar.mk ((i_2 : Nat) : Int) (s.gens.getD i_2 default))] : List Ar)) Iz) ⟨by omega, by omega⟩ (n := out_1.length) (m := 1) (k := fun ax1 cx1 Bx1 hox1 => ?_)
  have hal1 : (out_1 ++ ([(Ar.mk ((i_2 : Nat) : Int) (s.gens.getD i_2 default))] : List Ar)).length = out_1.length + 1 := by first | rfl | exact List.length_append | simp
  refine Wz ?_
  refine Xb ?_
  refine Fk _ (sa (sd (sk sz))) ?_
  refine Cs ?_
  refine fP ?_
  exact Kt n_3 (out_1 ++ ([(Ar.mk ((i_2 : Nat) : Int) (s.gens.getD i_2 default))] : List Ar)) ax1 cx1 Bx1 (i_2 + 1) ⟨by omega, (((hF4.pos hq1).t hq2).t hq3), hox1, Ri, Ri⟩ (Nat.lt_succ_self _) se (List.Perm.refl _)

theorem wI (w : World) {s : Ap} : Hn Tryz.prog 105 [(vt s)] w (Value.bool (eR s)) := by
 have hF := Is.refl (eR s)
 refine enter func105 ntmps105 (h := ?_)
 refine Ut ?_
 refine yH ?_
 refine cP ?_
 refine Ao 6 rfl (fun hq1 => ?_) (fun hq1 => ?_)
 rotate_left
 ·refine Ae 3 rfl ?_
  refine oV ?_
  refine Ky ?_
  refine Ab results105 z1 (fun w1 hw1 => ?_)
  exact ⟨(rq (hF.neg hq1)), hw1.ext_out⟩
 refine O0 ?_
 refine cW ?_
 refine Pj ?_
 refine Ao 11 rfl (fun hq2 => ?_) (fun hq2 => ?_)
 rotate_left
 ·refine Ae 2 rfl ?_
  refine Ky ?_
  refine Ab results105 z1 (fun w1 hw1 => ?_)
  exact ⟨(rq ((hF.pos hq1).neg hq2)), hw1.ext_out⟩
 refine Hf ?_
 refine Ih (Ad call135) (fun w1 hw1 => qE w1 (s := s) (n_s := z6)) (k := ?_)
 refine Vv ?_
 refine Ab results105 z1 (fun w1 hw1 => ?_)
 exact ⟨(rq ((hF.pos hq1).pos hq2)), hw1.ext_out⟩

theorem nU (w : World) {t_rules_a : Option Addr} {t_rules_c : Nat} {t_creds_a : Option Addr} {t_creds_c : Nat} {t : Aa} {seq : Int} (h_t_rules : Sl w Et 5 t_rules_a t.rules) (n_t_rules : t.rules.length ≤ 1000) (h_t_creds : Sl w Fq 4 t_creds_a t.creds) (n_t_creds : t.creds.length ≤ 1000) : Hn Tryz.prog 69 [(Value.agg [(vi t.handle.slot), (vi t.handle.gen), (vt t.name), (vi t.state), (vi t.version), (vs t_rules_a t.rules.length t_rules_c), (vs t_creds_a t.creds.length t_creds_c), (vi t.deadline)].toArray), (vi seq)] w (Value.bool (Nj t seq)) := by
 have hF := Is.refl (Nj t seq)
 refine enter func69 ntmps69 (h := ?_)
 refine Z2 ?_
 refine Ah Ag z61 (k := fun r1 hr1 => ?_)
 refine cV ?_
 refine oS ?_
 refine Fu (Ad call105) (fun w1 hw1 => wI w1 (s := t.name)) (k := ?_)
 refine oT ?_
 refine Di 9 rfl (fun hq1 => ?_) (fun hq1 => ?_)
 ·refine Ae 3 rfl ?_
  refine Uu ?_
  refine Uu ?_
  refine Pj ?_
  refine Ae 4 rfl ?_
  refine Ro ?_
  refine Ab results69 z1 (fun w1 hw1 => ?_)
  exact ⟨(rq (hF.t hq1)), hw1.ext_out⟩
 refine jD ?_
 refine Bb Ps (k := ?_)
 refine Rv ?_
 refine Ao 14 rfl (fun hq2 => ?_) (fun hq2 => ?_)
 ·refine Ae 3 rfl ?_
  refine Uu ?_
  refine Pj ?_
  refine Ae 4 rfl ?_
  refine Ro ?_
  refine Ab results69 z1 (fun w1 hw1 => ?_)
  exact ⟨(rq ((hF.f hq1).pos hq2)), hw1.ext_out⟩
 refine jD ?_
 refine tY ?_
 refine Ao 19 rfl (fun hq3 => ?_) (fun hq3 => ?_)
 ·refine Ae 3 rfl ?_
  refine Pj ?_
  refine Ae 4 rfl ?_
  refine Ro ?_
  refine Ab results69 z1 (fun w1 hw1 => ?_)
  exact ⟨(rq (((hF.f hq1).neg hq2).pos hq3)), hw1.ext_out⟩
 refine lK ?_
 refine Bb Ps (k := ?_)
 refine Rv ?_
 refine Ao 24 rfl (fun hq4 => ?_) (fun hq4 => ?_)
 ·refine Ae 4 rfl ?_
  refine Ro ?_
  refine Ab results69 z1 (fun w1 hw1 => ?_)
  exact ⟨(rq ((((hF.f hq1).neg hq2).neg hq3).pos hq4)), hw1.ext_out⟩
 refine lK ?_
 refine lP ?_
 refine Qh ?_
 refine Au rfl (fun hq5 => ?_) (fun hq5 => ?_)
 ·refine Bg ?_
  refine Kz ?_
  refine Ab results69 z1 (fun w1 hw1 => ?_)
  exact ⟨(rq (((((hF.f hq1).neg hq2).neg hq3).neg hq4).pos hq5)), hw1.ext_out⟩
 refine Js ?_
 refine Z2 ?_
 refine Af (Ai cE) (k := ?_)
 refine Hx ?_
 refine Rx ?_
 refine Ao 33 rfl (fun hq6 => ?_) (fun hq6 => ?_)
 ·refine Ae 3 rfl ?_
  refine Pj ?_
  refine Ae 8 rfl ?_
  refine Ro ?_
  refine Ab results69 z1 (fun w1 hw1 => ?_)
  exact ⟨(rq ((((((hF.f hq1).neg hq2).neg hq3).neg hq4).neg hq5).pos hq6)), hw1.ext_out⟩
 refine cL ?_
 refine tY ?_
 refine Ao 38 rfl (fun hq7 => ?_) (fun hq7 => ?_)
 ·refine Ae 8 rfl ?_
  refine Ro ?_
  refine Ab results69 z1 (fun w1 hw1 => ?_)
  exact ⟨(rq (((((((hF.f hq1).neg hq2).neg hq3).neg hq4).neg hq5).neg hq6).pos hq7)), hw1.ext_out⟩
 refine cL ?_
 refine Bb Lc (k := ?_)
 refine Hf ?_
 refine Ao 42 rfl (fun hq8 => ?_) (fun hq8 => ?_)
 rotate_left
 ·refine Ae 3 rfl ?_
  refine Bb Hy (k := ?_)
  refine Qh ?_
  refine Gj rfl ?_
  refine Rr ?_
  refine O1 ?_
  refine AO6 ?_
  refine Di 51 rfl (fun hq11 => ?_) (fun hq11 => ?_)
  rotate_left
  ·refine Ae 3 rfl ?_
   refine Ky ?_
   refine Ab results69 z1 (fun w1 hw1 => ?_)
   exact ⟨(rq (((((((((hF.f hq1).neg hq2).neg hq3).neg hq4).neg hq5).neg hq6).neg hq7).neg hq8).f hq11)), hw1.ext_out⟩
  refine AP1 ?_
  refine Vv ?_
  refine Ab results69 z1 (fun w1 hw1 => ?_)
  exact ⟨(rq (((((((((hF.f hq1).neg hq2).neg hq3).neg hq4).neg hq5).neg hq6).neg hq7).neg hq8).t hq11)), hw1.ext_out⟩
 refine jD ?_
 refine Bb Lc (k := ?_)
 refine Bb Hh (k := ?_)
 refine Qh ?_
 refine Au rfl (fun hq9 => ?_) (fun hq9 => ?_)
 ·refine Bg ?_
  refine Kz ?_
  refine Ab results69 z1 (fun w1 hw1 => ?_)
  exact ⟨(rq (((((((((hF.f hq1).neg hq2).neg hq3).neg hq4).neg hq5).neg hq6).neg hq7).pos hq8).pos hq9)), hw1.ext_out⟩
 refine Rr ?_
 refine O1 ?_
 refine AO6 ?_
 refine Di 51 rfl (fun hq10 => ?_) (fun hq10 => ?_)
 rotate_left
 ·refine Ae 3 rfl ?_
  refine Ky ?_
  refine Ab results69 z1 (fun w1 hw1 => ?_)
  exact ⟨(rq ((((((((((hF.f hq1).neg hq2).neg hq3).neg hq4).neg hq5).neg hq6).neg hq7).pos hq8).neg hq9).f hq10)), hw1.ext_out⟩
 refine AP1 ?_
 refine Vv ?_
 refine Ab results69 z1 (fun w1 hw1 => ?_)
 exact ⟨(rq ((((((((((hF.f hq1).neg hq2).neg hq3).neg hq4).neg hq5).neg hq6).neg hq7).pos hq8).neg hq9).t hq10)), hw1.ext_out⟩

theorem eZ (w : World) {r_Sg_a : Option Addr} {r_Sg_c : Nat} {r_Su_a : Option Addr} {r_Su_c : Nat} {r_Sf_a : Option Addr} {r_Sf_c : Nat} {r_l_a : Option Addr} {r_l_c : Nat} {r_l_t : List TA} {r : Ac} (h_r_Sg : Sl w eI 1 r_Sg_a r.slots.gens) (n_r_Sg : r.slots.gens.length ≤ 1000) (h_r_Su : Sl w eB 1 r_Su_a r.slots.used) (n_r_Su : r.slots.used.length ≤ 1000) (h_r_Sf : Sl w eI 1 r_Sf_a r.slots.free) (n_r_Sf : r.slots.free.length ≤ 1000) (h_r_l : Rm w Bu 8 DT r_l_a r.l r_l_t) (n_r_l : r.l.length ≤ 1000) (k_r_l : r.l.length ≤ r_l_c) (hsm : Bk r.l) : Hn Tryz.prog 32 [(Value.agg [(vs r_Sg_a r.slots.gens.length r_Sg_c), (vs r_Su_a r.slots.used.length r_Su_c), (vs r_Sf_a r.slots.free.length r_Sf_c), (vs r_l_a r.l.length r_l_c), (vi r.seq)].toArray)] w (Value.bool (Hl r)) := by
 have hF := Is.refl (Hl r)
 refine enter func32 ntmps32 (h := ?_)
 refine Z2 ?_
 refine Ah Ag Vf (k := fun r1 hr1 => ?_)
 refine Jr ?_
 refine fL ?_
 refine Gy (Ad call67) (fun w1 hw1 => H7 w1 (s := r.slots) (h_s_gens := (Bp.of_base h_r_Sg) w1 hw1) (n_s_gens := by first | omega | exact Nat.le_trans (hsm _ z2).1 Gi | exact Nat.le_trans (hsm _ z2).2 Gi | exact Nat.le_trans (hsm2 _ z2).1 Gi | exact Nat.le_trans (hsm2 _ z2).2 Gi) (h_s_used := (Bp.of_base h_r_Su) w1 hw1) (n_s_used := by first | omega | exact Nat.le_trans (hsm _ z2).1 Gi | exact Nat.le_trans (hsm _ z2).2 Gi | exact Nat.le_trans (hsm2 _ z2).1 Gi | exact Nat.le_trans (hsm2 _ z2).2 Gi) (h_s_free := (Bp.of_base h_r_Sf) w1 hw1) (n_s_free := by first | omega | exact Nat.le_trans (hsm _ z2).1 Gi | exact Nat.le_trans (hsm _ z2).2 Gi | exact Nat.le_trans (hsm2 _ z2).1 Gi | exact Nat.le_trans (hsm2 _ z2).2 Gi)) (k := ?_)
 rintro w1_1 e1_1 w2_1 hw1_1 ⟨a1_1, c1_1, B1_1, he_1, hf_1, ho1_1⟩
 refine ⟨_, _, he_1, hw1_1.fresh hf_1, ?_⟩
 have har_65294 := wG r.slots
 refine cV ?_
 refine fL ?_
 refine Fu (Ad call68) (fun w1 hw1 => eY w1 (s := r.slots) (h_s_gens := (Bp.of_base h_r_Sg) w1 hw1) (n_s_gens := by first | omega | exact Nat.le_trans (hsm _ z2).1 Gi | exact Nat.le_trans (hsm _ z2).2 Gi | exact Nat.le_trans (hsm2 _ z2).1 Gi | exact Nat.le_trans (hsm2 _ z2).2 Gi) (h_s_used := (Bp.of_base h_r_Su) w1 hw1) (n_s_used := by first | omega | exact Nat.le_trans (hsm _ z2).1 Gi | exact Nat.le_trans (hsm _ z2).2 Gi | exact Nat.le_trans (hsm2 _ z2).1 Gi | exact Nat.le_trans (hsm2 _ z2).2 Gi) (h_s_free := (Bp.of_base h_r_Sf) w1 hw1) (n_s_free := by first | omega | exact Nat.le_trans (hsm _ z2).1 Gi | exact Nat.le_trans (hsm _ z2).2 Gi | exact Nat.le_trans (hsm2 _ z2).1 Gi | exact Nat.le_trans (hsm2 _ z2).2 Gi)) (k := ?_)
 refine oT ?_
 refine Di 13 rfl (fun hq1 => ?_) (fun hq1 => ?_)
 ·refine Ae 3 rfl ?_
  refine Uu ?_
  refine Pj ?_
  refine Ae 6 rfl ?_
  refine Ro ?_
  refine Ab results32 z1 (fun w1 hw1 => ?_)
  exact ⟨(rq (hF.t hq1)), hw1.ext_out⟩
 have hfhq1 := iS tC
 refine cM ?_
 refine Bb Ps (k := ?_)
 refine Rv ?_
 refine Ao 18 rfl (fun hq2 => ?_) (fun hq2 => ?_)
 ·refine Ae 3 rfl ?_
  refine Pj ?_
  refine Ae 6 rfl ?_
  refine Ro ?_
  refine Ab results32 z1 (fun w1 hw1 => ?_)
  exact ⟨(rq ((hF.f hq1).pos hq2)), hw1.ext_out⟩
 refine cM ?_
 refine tY ?_
 refine Ao 23 rfl (fun hq3 => ?_) (fun hq3 => ?_)
 ·refine Ae 6 rfl ?_
  refine Ro ?_
  refine Ab results32 z1 (fun w1 hw1 => ?_)
  exact ⟨(rq (((hF.f hq1).neg hq2).pos hq3)), hw1.ext_out⟩
 refine Hf ?_
 refine Bb (Ei runUnderlying90) (k := ?_)
 refine P3 ?_
 refine Bb Lc (k := ?_)
 refine Qh ?_
 refine Au rfl (fun hq4 => ?_) (fun hq4 => ?_)
 ·refine Bg ?_
  refine Kz ?_
  refine Ab results32 z1 (fun w1 hw1 => ?_)
  exact ⟨(rq ((((hF.f hq1).neg hq2).neg hq3).pos hq4)), hw1.ext_out⟩
 refine Js ?_
 refine Pn ?_
 refine Dr (σ1 := Nat) (σ2 := Nat) (fun n_2 i_1 => (B1_1 ++ ((r1, oc [(vs r_Sg_a r.slots.gens.length r_Sg_c), (vs r_Su_a r.slots.used.length r_Su_c), (vs r_Sf_a r.slots.free.length r_Sf_c), (vs r_l_a r.l.length r_l_c), (vi r.seq)] 28) :: []))) (fun n_2 i_1 => [(1, (Value.pointer (some ⟨r1, 0, none⟩))), (2, (Value.bool false)), (3, (vs a1_1 ((Il r.slots).length) c1_1)), (4, (vi ((i_1 : Nat) : Int)))]) (fun n_2 i_1 => r.l.length - i_1 < n_2 ∧ Is (Jb r (r.l.length + 1) 0) (Jb r n_2 i_1) ∧ i_1 ≤ r.l.length) (fun n_2 i_1 => n_2) (r.l.length + 1) 0 ?_ se (List.Perm.refl _) ?_
 ·exact ⟨Nat.lt_succ_self _, Is.refl _, Kh⟩
 ·rintro (_ | n_2) i_1 ⟨hm4, hF3, hi5⟩
  ·omega
  refine fT ?_
  refine cO ?_
  refine Z9 ?_
  refine Au rfl (fun hq5 => ?_) (fun hq5 => ?_)
  rotate_left
  ·refine Ca ?_
   refine La ?_
   refine Ab results32 z1 (fun w1 hw1 => ?_)
   exact ⟨(rq (((((hF.f hq1).neg hq2).neg hq3).neg hq4).ok1 (hF3.neg hq5))), hw1.ext_out⟩
  refine jJ ?_
  refine Bg ?_
  refine Fi Da 22 [(true, 0), (true, 1), (true, 2), (true, 3), (true, 4), (true, 5), (true, 6), (true, 7), (true, 8), (true, 9), (true, 10), (true, 11), (true, 12), (true, 13), (true, 14), (true, 15), (true, 16), (true, 17), (true, 18), (false, 19), (true, 20), (true, 21)] z4 ?_
  refine AP0 ?_
  refine Aw (Pa Kg) (k := ?_)
  refine Aw (A4 isAgg42 sizeOf42 i_1 0 (Ds.of_base Dc h_r_l).sl (Cv h_r_l.1 z3)) (k := ?_)
  refine Xa ?_
  refine Aw (Cb (n := (Il r.slots).length) runUnderlying90 sizeOf42 i_1 (ho1_1.slj Iz) (gD z3) Jv) (k := ?_)
  refine Aw (Cn isAgg42 sizeOf42 i_1 (ho1_1.slj Iz) (gD z3)) (k := ?_)
  refine Aw (Rl (AA3 _ _ _ _ _ _)) (k := ?_)
  refine Gu ?_
  refine Fm 49 rfl (fun hq6 => ?_) (fun hq6 => ?_)
  ·refine Bm 9 rfl ?_
   refine bB ?_
   refine Zc ?_
   refine Pi ?_
   refine lB ?_
   refine Ab results32 z1 (fun w1 hw1 => ?_)
   exact ⟨(rq (((((hF.f hq1).neg hq2).neg hq3).neg hq4).er1 ((hF3.pos hq5).pos hq6))), hw1.ext_out⟩
  refine Bl (Ai Kf) (k := ?_)
  refine Bl (Bv isAgg26) (k := ?_)
  refine Mq ?_
  refine Bl (Cb (n := r.l.length) runUnderlying26 sizeOf52 i_1 (Ds.of_base Dc h_r_l).sl (Cv h_r_l.1 z3) (Br h_r_l.1)) (k := ?_)
  have hcp7 := (h_r_l.2.2 i_1 z3).2.2.1
  have hcp8 := (h_r_l.2.2 i_1 z3).2.2.2
  refine Bl (Cn isAgg52 sizeOf52 i_1 (Ds.of_base Dc h_r_l).sl (Cv h_r_l.1 z3)) (k := ?_)
  refine Bl (Ai Ol) (k := ?_)
  refine bK ?_
  refine Nu (Ad call69) (fun w1 hw1 => nU w1 (t := (r.l.getD i_1 default)) (seq := r.seq) (h_t_rules := (fun w hw => ((Ds.of_base Dc h_r_l).at (m := i_1) z3 w hw).1) w1 hw1) (n_t_rules := by first | omega | exact Nat.le_trans (hsm _ z2).1 Gi | exact Nat.le_trans (hsm _ z2).2 Gi | exact Nat.le_trans (hsm2 _ z2).1 Gi | exact Nat.le_trans (hsm2 _ z2).2 Gi) (h_t_creds := (fun w hw => ((Ds.of_base Dc h_r_l).at (m := i_1) z3 w hw).2.1) w1 hw1) (n_t_creds := by first | omega | exact Nat.le_trans (hsm _ z2).1 Gi | exact Nat.le_trans (hsm _ z2).2 Gi | exact Nat.le_trans (hsm2 _ z2).1 Gi | exact Nat.le_trans (hsm2 _ z2).2 Gi)) (k := ?_)
  refine Bl Lv (k := ?_)
  refine Xf ?_
  refine Ct rfl (fun hq9 => ?_) (fun hq9 => ?_)
  ·refine Bg ?_
   refine Kz ?_
   refine lB ?_
   refine Ab results32 z1 (fun w1 hw1 => ?_)
   exact ⟨(rq (((((hF.f hq1).neg hq2).neg hq3).neg hq4).er1 (((hF3.pos hq5).neg hq6).t hq9))), hw1.ext_out⟩
  refine aY ?_
  refine Pn ?_
  refine Dr (σ1 := Nat) (σ2 := Nat) (fun n_7 k_6 => (B1_1 ++ ((r1, oc [(vs r_Sg_a r.slots.gens.length r_Sg_c), (vs r_Su_a r.slots.used.length r_Su_c), (vs r_Sf_a r.slots.free.length r_Sf_c), (vs r_l_a r.l.length r_l_c), (vi r.seq)] 28) :: []))) (fun n_7 k_6 => [(1, (Value.pointer (some ⟨r1, 0, none⟩))), (2, (Value.bool false)), (3, (vs a1_1 ((Il r.slots).length) c1_1)), (4, (vi ((i_1 : Nat) : Int))), (5, (vi ((k_6 : Nat) : Int)))]) (fun n_7 k_6 => i_1 - k_6 < n_7 ∧ Is (Gx r i_1 (i_1 + 1) 0) (Gx r i_1 n_7 k_6) ∧ k_6 ≤ i_1) (fun n_7 k_6 => n_7) (i_1 + 1) 0 ?_ se (List.Perm.refl _) ?_
  ·exact ⟨Nat.lt_succ_self _, Is.refl _, Kh⟩
  ·rintro (_ | n_7) k_6 ⟨hm9, hF8, hi10⟩
   ·omega
   refine cU ?_
   refine Z9 ?_
   refine Au rfl (fun hq10 => ?_) (fun hq10 => ?_)
   rotate_left
   ·refine Ca ?_
    refine Z40 ?_
    refine Po ?_
    exact Dp n_2 (i_1 + 1) ⟨by omega, ((((hF3.pos hq5).neg hq6).f hq9).ok1 (hF8.neg hq10)), z2⟩ (Nat.lt_succ_self _) se (List.Perm.refl _)
   refine jJ ?_
   refine Fi Da 13 [(true, 0), (true, 1), (true, 2), (true, 3), (true, 4), (true, 5), (true, 6), (true, 7), (true, 8), (true, 9), (true, 10), (true, 11), (true, 12)] z4 ?_
   refine lT ?_
   refine Aw (Cb (n := r.l.length) runUnderlying26 sizeOf52 k_6 (Ds.of_base Dc h_r_l).sl (Cv h_r_l.1 z3) (Br h_r_l.1)) (k := ?_)
   refine Aw (Pa Om) (k := ?_)
   refine Aw (Bz isAgg9 k_6 2 (Ds.of_base Dc h_r_l).sl (Cv h_r_l.1 z3)) (k := ?_)
   refine AP0 ?_
   refine Aw (Pa Om) (k := ?_)
   refine Aw (Bz isAgg9 i_1 2 (Ds.of_base Dc h_r_l).sl (Cv h_r_l.1 z3)) (k := ?_)
   refine Aw mN (k := ?_)
   refine Xd ?_
   refine Au rfl (fun hq11 => ?_) (fun hq11 => ?_)
   rotate_left
   ·refine Bq ?_
    refine Po ?_
    exact Dp n_7 (k_6 + 1) ⟨by omega, ((hF8.pos hq10).neg hq11), z2⟩ (Nat.lt_succ_self _) se (List.Perm.refl _)
   refine Vw ?_
   refine Z41 ?_
   refine Cy ?_
   refine lB ?_
   refine Ab results32 z1 (fun w1 hw1 => ?_)
   exact ⟨(rq (((((hF.f hq1).neg hq2).neg hq3).neg hq4).er1 ((((hF3.pos hq5).neg hq6).f hq9).er1 ((hF8.pos hq10).pos hq11)))), hw1.ext_out⟩

theorem qR (w : World) {r_Sg_a : Option Addr} {r_Sg_c : Nat} {r_Su_a : Option Addr} {r_Su_c : Nat} {r_Sf_a : Option Addr} {r_Sf_c : Nat} {r_l_a : Option Addr} {r_l_c : Nat} {r_l_t : List TA} {r : Ac} {s : Ap} (h_r_Sg : Sl w eI 1 r_Sg_a r.slots.gens) (n_r_Sg : r.slots.gens.length ≤ 1000) (h_r_Su : Sl w eB 1 r_Su_a r.slots.used) (n_r_Su : r.slots.used.length ≤ 1000) (h_r_Sf : Sl w eI 1 r_Sf_a r.slots.free) (n_r_Sf : r.slots.free.length ≤ 1000) (h_r_l : Rm w Bu 8 DT r_l_a r.l r_l_t) (n_r_l : r.l.length ≤ 1000) (k_r_l : r.l.length ≤ r_l_c) : Hn Tryz.prog 66 [(Value.agg [(vs r_Sg_a r.slots.gens.length r_Sg_c), (vs r_Su_a r.slots.used.length r_Su_c), (vs r_Sf_a r.slots.free.length r_Sf_c), (vs r_l_a r.l.length r_l_c), (vi r.seq)].toArray), (vt s)] w (vi (Cw r s)) := by
 have hF := Is.refl (Cw r s)
 refine enter func66 ntmps66 (h := ?_)
 refine Z2 ?_
 refine Ah Ag Vf (k := fun r1 hr1 => ?_)
 refine Rw ?_
 refine Pn ?_
 refine Dr (σ1 := Nat) (σ2 := Nat) (fun n_2 i_1 => ((r1, oc [(vs r_Sg_a r.slots.gens.length r_Sg_c), (vs r_Su_a r.slots.used.length r_Su_c), (vs r_Sf_a r.slots.free.length r_Sf_c), (vs r_l_a r.l.length r_l_c), (vi r.seq)] 28) :: [])) (fun n_2 i_1 => [(1, (vt s)), (2, (Value.pointer (some ⟨r1, 0, none⟩))), (4, (vi 0)), (5, (vi ((i_1 : Nat) : Int)))]) (fun n_2 i_1 => r.l.length - i_1 < n_2 ∧ Is (Hv r s (r.l.length + 1) 0) (Hv r s n_2 i_1) ∧ i_1 ≤ r.l.length) (fun n_2 i_1 => n_2) (r.l.length + 1) 0 ?_ se (List.Perm.refl _) ?_
 ·exact ⟨Nat.lt_succ_self _, Is.refl _, Kh⟩
 ·rintro (_ | n_2) i_1 ⟨hm4, hF3, hi5⟩
  ·omega
  refine fT ?_
  refine cO ?_
  refine Z9 ?_
  refine Au rfl (fun hq1 => ?_) (fun hq1 => ?_)
  rotate_left
  ·refine Ca ?_
   refine La ?_
   refine Ab results66 z1 (fun w1 hw1 => ?_)
   exact ⟨(rq (hF.ok1 (hF3.neg hq1))), hw1.ext_out⟩
  refine xC ?_
  refine xD ?_
  refine Cg ?_
  refine Af (Cb (n := r.l.length) runUnderlying26 sizeOf52 i_1 (Ds.of_base Dc h_r_l).sl (Cv h_r_l.1 z3) (Br h_r_l.1)) (k := ?_)
  refine Af (Pa Om) (k := ?_)
  refine Af (Bz isAgg9 i_1 2 (Ds.of_base Dc h_r_l).sl (Cv h_r_l.1 z3)) (k := ?_)
  refine Cg ?_
  refine Af mN (k := ?_)
  refine Z0 ?_
  refine Au rfl (fun hq2 => ?_) (fun hq2 => ?_)
  rotate_left
  ·refine Bq ?_
   refine Po ?_
   exact Dp n_2 (i_1 + 1) ⟨by omega, ((hF3.pos hq1).neg hq2), z2⟩ (Nat.lt_succ_self _) se (List.Perm.refl _)
  refine Z4 ?_
  refine oN ?_
  refine Ab results66 z1 (fun w1 hw1 => ?_)
  exact ⟨(rq (hF.er1 ((hF3.pos hq1).pos hq2))), hw1.ext_out⟩

theorem qS (w : World) {r_Sg_a : Option Addr} {r_Sg_c : Nat} {r_Su_a : Option Addr} {r_Su_c : Nat} {r_Sf_a : Option Addr} {r_Sf_c : Nat} {r_l_a : Option Addr} {r_l_c : Nat} {r_l_t : List TA} {r : Ac} (h_r_Sg : Sl w eI 1 r_Sg_a r.slots.gens) (n_r_Sg : r.slots.gens.length ≤ 1000) (h_r_Su : Sl w eB 1 r_Su_a r.slots.used) (n_r_Su : r.slots.used.length ≤ 1000) (h_r_Sf : Sl w eI 1 r_Sf_a r.slots.free) (n_r_Sf : r.slots.free.length ≤ 1000) (h_r_l : Rm w Bu 8 DT r_l_a r.l r_l_t) (n_r_l : r.l.length ≤ 1000) (k_r_l : r.l.length ≤ r_l_c) : Calls Tryz.prog 34 (List.toArray [(Value.agg [(vs r_Sg_a r.slots.gens.length r_Sg_c), (vs r_Su_a r.slots.used.length r_Su_c), (vs r_Sf_a r.slots.free.length r_Sf_c), (vs r_l_a r.l.length r_l_c), (vi r.seq)].toArray)]) w fun e w2 => ∃ a1 : Option Addr, ∃ c1 : Nat, ∃ B1 : Aj, e = .returned (vs a1 ((Mc r).length) c1) ∧ Dh w w2 B1 ∧ Bi eS 1 9 a1 c1 B1 (Mc r) ∧ (Mc r).length ≤ 1000 := by
 have hF := Is.refl (Mc r)
 refine enter func34 ntmps34 (h := ?_)
 refine Z2 ?_
 refine Ah Ag Vf (k := fun r1 hr1 => ?_)
 refine Jr ?_
 refine Rw ?_
 refine Pn ?_
 refine Ny (σ1 := Nat) (σ2 := List Ap) (σ3 := Option Addr) (σ4 := Nat) (σ5 := Aj) (σ6 := Nat) (fun n_3 out_1 out_1a out_1c out_1B i_2 => (out_1B ++ ((r1, oc [(vs r_Sg_a r.slots.gens.length r_Sg_c), (vs r_Su_a r.slots.used.length r_Su_c), (vs r_Sf_a r.slots.free.length r_Sf_c), (vs r_l_a r.l.length r_l_c), (vi r.seq)] 28) :: []))) (fun n_3 out_1 out_1a out_1c out_1B i_2 => [(1, (Value.pointer (some ⟨r1, 0, none⟩))), (2, (vs none 0 0)), (3, (vs out_1a out_1.length out_1c)), (4, (vi ((i_2 : Nat) : Int)))]) (fun n_3 out_1 out_1a out_1c out_1B i_2 => r.l.length - i_2 < n_3 ∧ Is (Jc r (r.l.length + 1) [] 0) (Jc r n_3 out_1 i_2) ∧ Bi eS 1 9 out_1a out_1c out_1B out_1 ∧ out_1.length ≤ i_2 ∧ i_2 ≤ r.l.length) (fun n_3 out_1 out_1a out_1c out_1B i_2 => n_3) (r.l.length + 1) ([]) none 0 ([]) 0 ?_ se (List.Perm.refl _) ?_
 ·exact ⟨Nat.lt_succ_self _, Is.refl _, Bi.nil, Kh, Kh⟩
 ·rintro (_ | n_3) out_1 out_1a out_1c out_1B i_2 ⟨hm5, hF4, hout_1, hi6, hi7⟩
  ·omega
  refine fT ?_
  refine cO ?_
  refine Z9 ?_
  refine Au rfl (fun hq1 => ?_) (fun hq1 => ?_)
  rotate_left
  ·refine Ca ?_
   refine bF ?_
   refine Ab results34 z1 (fun w1 hw1 => ?_)
   exact ⟨out_1a, out_1c, out_1B, (rq (hF.rn2 (hF4.neg hq1))), (Ba (L := out_1B) (hw1.perm (List.Perm.refl _)) rfl.symm), (by rw [(hF.rn2 (hF4.neg hq1)).eq]; exact hout_1), (rl (hF.rn2 (hF4.neg hq1)))⟩
  refine fJ ?_
  refine fQ ?_
  refine xD ?_
  refine AO4 ?_
  refine Af (Pa Om) (k := ?_)
  refine Af (Bz isAgg9 i_2 2 (Ds.of_base Dc h_r_l).sl (Cv h_r_l.1 z3)) (k := ?_)
  refine Ah Ag (Eb (l := [_]) runUnderlying66 sizeOf9 zeroValue9) (k := fun r2 hr2 => ?_)
  refine Az (out_1 ++ ([((r.l.getD i_2 default).name)] : List Ap)) rfl AS7 underlying66 hQ hout_1 (qb q0) (Bp.lit (xs := ([((r.l.getD i_2 default).name)] : List Ap)) hQ) ⟨by omega, by omega⟩ (n := out_1.length) (m := 1) (k := fun ax1 cx1 Bx1 hox1 => ?_)
  have hal1 : (out_1 ++ ([((r.l.getD i_2 default).name)] : List Ap)).length = out_1.length + 1 := by first | rfl | exact List.length_append | simp
  refine Wz ?_
  refine Xb ?_
  refine Fk _ (sa (sd (sk sz))) ?_
  refine Cs ?_
  refine fP ?_
  exact Kt n_3 (out_1 ++ ([((r.l.getD i_2 default).name)] : List Ap)) ax1 cx1 Bx1 (i_2 + 1) ⟨by omega, (hF4.pos hq1), hox1, z2, z2⟩ (Nat.lt_succ_self _) se (List.Perm.refl _)

theorem H8 (w : World) {n_ : Int} : Calls Tryz.prog 30 (List.toArray [(vi n_)]) w fun e w2 => ∃ a1 : Option Addr, ∃ c1 : Nat, ∃ a2 : Option Addr, ∃ c2 : Nat, ∃ a3 : Option Addr, ∃ c3 : Nat, ∃ a4 : Option Addr, ∃ c4 : Nat, ∃ t4 : List TA, ∃ B : Aj, e = .returned (Value.tuple [(Value.agg [(vs a1 ((Eu n_).1.slots.gens.length) c1), (vs a2 ((Eu n_).1.slots.used.length) c2), (vs a3 ((Eu n_).1.slots.free.length) c3), (vs a4 ((Eu n_).1.l.length) c4), (vi ((Eu n_).1.seq))].toArray), (vi ((Eu n_).2))].toArray) ∧ Dh w w2 B ∧ Dw B eI 1 a1 (Eu n_).1.slots.gens ∧ Dw B eB 1 a2 (Eu n_).1.slots.used ∧ Dw B eI 1 a3 (Eu n_).1.slots.free ∧ (Cx B Bu 8 DT a4 (Eu n_).1.l t4 ∧ (Eu n_).1.l.length ≤ c4) := by
 have hF := Is.refl (Eu n_)
 refine enter func30 ntmps30 (h := ?_)
 refine Z2 ?_
 refine Ah Ag Wy (k := fun r1 hr1 => ?_)
 refine Jq ?_
 refine Gy (Ad call65) (fun w1 hw1 => H6 w1 (n_ := n_)) (k := ?_)
 rintro w1_1 e1_1 w2_1 hw1_1 ⟨a1_1, c1_1, a2_1, c2_1, a3_1, c3_1, B1_1, B2_1, B3_1, he_1, hf_1, ho1_1, ho2_1, ho3_1⟩
 refine ⟨_, _, he_1, (hw1_1.fresh hf_1).perm (eqp (nA (nA rfl))), ?_⟩
 have hnr_3363 := iV n_
 refine Ry ?_
 refine Ah Ag jB (k := fun r2 hr2 => ?_)
 refine lZ ?_
 refine Jr ?_
 refine bI ?_
 refine Af z62 (k := ?_)
 refine Cg ?_
 refine cZ ?_
 refine Z6 ?_
 refine Ab results30 (Fb.agg isAgg28 sizeOf28 rfl me rfl z1) (fun w1 hw1 => ?_)
 exact ⟨a1_1, c1_1, a2_1, c2_1, a3_1, c3_1, none, 0, [], (B1_1 ++ (B2_1 ++ B3_1)), (rq hF), (Ba (L := (B1_1 ++ (B2_1 ++ B3_1))) (hw1.perm (((qb (qd (qd q0))).trans (qd (qb (qd q0)))).trans (qd (qd (qb q0))))) (nA (nA rfl)).symm), (by unfold Eu; exact (ho1_1.slb Bh)), (by unfold Eu; exact (ho2_1.slb Gh)), (by unfold Eu; exact (ho3_1.slb Bh)), (by unfold Eu; exact ⟨Cx.nil, by first | (simp; done) | exact Nat.le_of_eq rfl⟩)⟩

theorem fA (w : World) {a_rules_a : Option Addr} {a_rules_c : Nat} {a_creds_a : Option Addr} {a_creds_c : Nat} {b_rules_a : Option Addr} {b_rules_c : Nat} {b_creds_a : Option Addr} {b_creds_c : Nat} {a : Aa} {b : Aa} (h_a_rules : Sl w Et 5 a_rules_a a.rules) (n_a_rules : a.rules.length ≤ 1000) (h_a_creds : Sl w Fq 4 a_creds_a a.creds) (n_a_creds : a.creds.length ≤ 1000) (h_b_rules : Sl w Et 5 b_rules_a b.rules) (n_b_rules : b.rules.length ≤ 1000) (h_b_creds : Sl w Fq 4 b_creds_a b.creds) (n_b_creds : b.creds.length ≤ 1000) : Hn Tryz.prog 27 [(Value.agg [(vi a.handle.slot), (vi a.handle.gen), (vt a.name), (vi a.state), (vi a.version), (vs a_rules_a a.rules.length a_rules_c), (vs a_creds_a a.creds.length a_creds_c), (vi a.deadline)].toArray), (Value.agg [(vi b.handle.slot), (vi b.handle.gen), (vt b.name), (vi b.state), (vi b.version), (vs b_rules_a b.rules.length b_rules_c), (vs b_creds_a b.creds.length b_creds_c), (vi b.deadline)].toArray)] w (Value.bool (Ra a b)) := by
 have hF := Is.refl (Ra a b)
 refine enter func27 ntmps27 (h := ?_)
 refine Z2 ?_
 refine Ah Ag z61 (k := fun r1 hr1 => ?_)
 refine Ah Ag z61 (k := fun r2 hr2 => ?_)
 refine Jr ?_
 refine N3 ?_
 refine N3 ?_
 refine Af (mH (D6 _ _ _ _ _ _)) (k := ?_)
 refine Cg ?_
 refine Ao 10 rfl (fun hq1 => ?_) (fun hq1 => ?_)
 rotate_left
 ·refine Ae 5 rfl ?_
  refine bD ?_
  refine bD ?_
  refine fK ?_
  refine Ky ?_
  refine Ab results27 z1 (fun w1 hw1 => ?_)
  exact ⟨(rq (hF.neg hq1)), hw1.ext_out⟩
 refine N9 ?_
 refine N9 ?_
 refine Bb mN (k := ?_)
 refine Pj ?_
 refine Ao 17 rfl (fun hq2 => ?_) (fun hq2 => ?_)
 rotate_left
 ·refine Ae 5 rfl ?_
  refine bD ?_
  refine bD ?_
  refine Ky ?_
  refine Ab results27 z1 (fun w1 hw1 => ?_)
  exact ⟨(rq ((hF.pos hq1).neg hq2)), hw1.ext_out⟩
 refine jD ?_
 refine jD ?_
 refine lV ?_
 refine Ao 24 rfl (fun hq3 => ?_) (fun hq3 => ?_)
 rotate_left
 ·refine Ae 5 rfl ?_
  refine bD ?_
  refine fK ?_
  refine Ky ?_
  refine Ab results27 z1 (fun w1 hw1 => ?_)
  exact ⟨(rq (((hF.pos hq1).pos hq2).neg hq3)), hw1.ext_out⟩
 refine lK ?_
 refine lK ?_
 refine lV ?_
 refine Ao 31 rfl (fun hq4 => ?_) (fun hq4 => ?_)
 rotate_left
 ·refine Ae 5 rfl ?_
  refine bD ?_
  refine Ky ?_
  refine Ab results27 z1 (fun w1 hw1 => ?_)
  exact ⟨(rq ((((hF.pos hq1).pos hq2).pos hq3).neg hq4)), hw1.ext_out⟩
 refine cL ?_
 refine cL ?_
 refine lV ?_
 refine Ao 38 rfl (fun hq5 => ?_) (fun hq5 => ?_)
 rotate_left
 ·refine Ae 5 rfl ?_
  refine fK ?_
  refine Ky ?_
  refine Ab results27 z1 (fun w1 hw1 => ?_)
  exact ⟨(rq (((((hF.pos hq1).pos hq2).pos hq3).pos hq4).neg hq5)), hw1.ext_out⟩
 refine xY ?_
 refine xY ?_
 refine Ih (Ad call25) (fun w1 hw1 => vL w1 (a := a.rules) (b := b.rules) (h_a := (Bp.of_base h_a_rules) w1 hw1) (n_a := z6) (h_b := (Bp.of_base h_b_rules) w1 hw1) (n_b := z6)) (k := ?_)
 refine Pj ?_
 refine Di 45 rfl (fun hq6 => ?_) (fun hq6 => ?_)
 rotate_left
 ·refine Ae 5 rfl ?_
  refine Ky ?_
  refine Ab results27 z1 (fun w1 hw1 => ?_)
  exact ⟨(rq ((((((hF.pos hq1).pos hq2).pos hq3).pos hq4).pos hq5).f hq6)), hw1.ext_out⟩
 refine tL ?_
 refine tL ?_
 refine Ih (Ad call63) (fun w1 hw1 => vM w1 (a := a.creds) (b := b.creds) (h_a := (Bp.of_base h_a_creds) w1 hw1) (n_a := z6) (h_b := (Bp.of_base h_b_creds) w1 hw1) (n_b := z6)) (k := ?_)
 refine Vv ?_
 refine Ab results27 z1 (fun w1 hw1 => ?_)
 exact ⟨(rq ((((((hF.pos hq1).pos hq2).pos hq3).pos hq4).pos hq5).t hq6)), hw1.ext_out⟩

theorem Um (w : World) {a_Sg_a : Option Addr} {a_Sg_c : Nat} {a_Su_a : Option Addr} {a_Su_c : Nat} {a_Sf_a : Option Addr} {a_Sf_c : Nat} {a_l_a : Option Addr} {a_l_c : Nat} {a_l_t : List TA} {b_Sg_a : Option Addr} {b_Sg_c : Nat} {b_Su_a : Option Addr} {b_Su_c : Nat} {b_Sf_a : Option Addr} {b_Sf_c : Nat} {b_l_a : Option Addr} {b_l_c : Nat} {b_l_t : List TA} {a : Ac} {b : Ac} (h_a_Sg : Sl w eI 1 a_Sg_a a.slots.gens) (n_a_Sg : a.slots.gens.length ≤ 1000) (h_a_Su : Sl w eB 1 a_Su_a a.slots.used) (n_a_Su : a.slots.used.length ≤ 1000) (h_a_Sf : Sl w eI 1 a_Sf_a a.slots.free) (n_a_Sf : a.slots.free.length ≤ 1000) (h_a_l : Rm w Bu 8 DT a_l_a a.l a_l_t) (n_a_l : a.l.length ≤ 1000) (k_a_l : a.l.length ≤ a_l_c) (h_b_Sg : Sl w eI 1 b_Sg_a b.slots.gens) (n_b_Sg : b.slots.gens.length ≤ 1000) (h_b_Su : Sl w eB 1 b_Su_a b.slots.used) (n_b_Su : b.slots.used.length ≤ 1000) (h_b_Sf : Sl w eI 1 b_Sf_a b.slots.free) (n_b_Sf : b.slots.free.length ≤ 1000) (h_b_l : Rm w Bu 8 DT b_l_a b.l b_l_t) (n_b_l : b.l.length ≤ 1000) (k_b_l : b.l.length ≤ b_l_c) (hsm : Bk a.l) (hsm2 : Bk b.l) : Hn Tryz.prog 19 [(Value.agg [(vs a_Sg_a a.slots.gens.length a_Sg_c), (vs a_Su_a a.slots.used.length a_Su_c), (vs a_Sf_a a.slots.free.length a_Sf_c), (vs a_l_a a.l.length a_l_c), (vi a.seq)].toArray), (Value.agg [(vs b_Sg_a b.slots.gens.length b_Sg_c), (vs b_Su_a b.slots.used.length b_Su_c), (vs b_Sf_a b.slots.free.length b_Sf_c), (vs b_l_a b.l.length b_l_c), (vi b.seq)].toArray)] w (Value.bool (Ks a b)) := by
 have hF := Is.refl (Ks a b)
 refine enter func19 ntmps19 (h := ?_)
 refine Z2 ?_
 refine Ah Ag Vf (k := fun r1 hr1 => ?_)
 refine Ah Ag Vf (k := fun r2 hr2 => ?_)
 refine cV ?_
 refine fL ?_
 refine fL ?_
 refine Fu (Ad call45) (fun w1 hw1 => wH w1 (a := a.slots) (b := b.slots) (h_a_gens := (Bp.of_base h_a_Sg) w1 hw1) (n_a_gens := by first | omega | exact Nat.le_trans (hsm _ z2).1 Gi | exact Nat.le_trans (hsm _ z2).2 Gi | exact Nat.le_trans (hsm2 _ z2).1 Gi | exact Nat.le_trans (hsm2 _ z2).2 Gi) (h_a_used := (Bp.of_base h_a_Su) w1 hw1) (n_a_used := by first | omega | exact Nat.le_trans (hsm _ z2).1 Gi | exact Nat.le_trans (hsm _ z2).2 Gi | exact Nat.le_trans (hsm2 _ z2).1 Gi | exact Nat.le_trans (hsm2 _ z2).2 Gi) (h_a_free := (Bp.of_base h_a_Sf) w1 hw1) (n_a_free := by first | omega | exact Nat.le_trans (hsm _ z2).1 Gi | exact Nat.le_trans (hsm _ z2).2 Gi | exact Nat.le_trans (hsm2 _ z2).1 Gi | exact Nat.le_trans (hsm2 _ z2).2 Gi) (h_b_gens := (Bp.of_base h_b_Sg) w1 hw1) (n_b_gens := by first | omega | exact Nat.le_trans (hsm _ z2).1 Gi | exact Nat.le_trans (hsm _ z2).2 Gi | exact Nat.le_trans (hsm2 _ z2).1 Gi | exact Nat.le_trans (hsm2 _ z2).2 Gi) (h_b_used := (Bp.of_base h_b_Su) w1 hw1) (n_b_used := by first | omega | exact Nat.le_trans (hsm _ z2).1 Gi | exact Nat.le_trans (hsm _ z2).2 Gi | exact Nat.le_trans (hsm2 _ z2).1 Gi | exact Nat.le_trans (hsm2 _ z2).2 Gi) (h_b_free := (Bp.of_base h_b_Sf) w1 hw1) (n_b_free := by first | omega | exact Nat.le_trans (hsm _ z2).1 Gi | exact Nat.le_trans (hsm _ z2).2 Gi | exact Nat.le_trans (hsm2 _ z2).1 Gi | exact Nat.le_trans (hsm2 _ z2).2 Gi)) (k := ?_)
 refine oT ?_
 refine Di 12 rfl (fun hq1 => ?_) (fun hq1 => ?_)
 ·refine Ae 5 rfl ?_
  refine Pj ?_
  refine Ae 7 rfl ?_
  refine Ro ?_
  refine Ab results19 z1 (fun w1 hw1 => ?_)
  exact ⟨(rq (hF.t hq1)), hw1.ext_out⟩
 refine cM ?_
 refine cM ?_
 refine Bb Lc (k := ?_)
 refine Rv ?_
 refine Ao 19 rfl (fun hq2 => ?_) (fun hq2 => ?_)
 ·refine Ae 7 rfl ?_
  refine Ro ?_
  refine Ab results19 z1 (fun w1 hw1 => ?_)
  exact ⟨(rq ((hF.f hq1).pos hq2)), hw1.ext_out⟩
 refine P3 ?_
 refine P3 ?_
 refine Bb Lc (k := ?_)
 refine Qh ?_
 refine Au rfl (fun hq3 => ?_) (fun hq3 => ?_)
 ·refine Bg ?_
  refine Kz ?_
  refine Ab results19 z1 (fun w1 hw1 => ?_)
  exact ⟨(rq (((hF.f hq1).neg hq2).pos hq3)), hw1.ext_out⟩
 refine Js ?_
 refine Pn ?_
 refine Dr (σ1 := Nat) (σ2 := Nat) (fun n_2 i_1 => ((r2, oc [(vs b_Sg_a b.slots.gens.length b_Sg_c), (vs b_Su_a b.slots.used.length b_Su_c), (vs b_Sf_a b.slots.free.length b_Sf_c), (vs b_l_a b.l.length b_l_c), (vi b.seq)] 28) :: ((r1, oc [(vs a_Sg_a a.slots.gens.length a_Sg_c), (vs a_Su_a a.slots.used.length a_Su_c), (vs a_Sf_a a.slots.free.length a_Sf_c), (vs a_l_a a.l.length a_l_c), (vi a.seq)] 28) :: []))) (fun n_2 i_1 => [(2, (Value.pointer (some ⟨r1, 0, none⟩))), (3, (Value.pointer (some ⟨r2, 0, none⟩))), (4, (Value.bool false)), (5, (vi ((i_1 : Nat) : Int)))]) (fun n_2 i_1 => a.l.length - i_1 < n_2 ∧ Is (Jm a b (a.l.length + 1) 0) (Jm a b n_2 i_1) ∧ i_1 ≤ a.l.length) (fun n_2 i_1 => n_2) (a.l.length + 1) 0 ?_ se (List.Perm.refl _) ?_
 ·exact ⟨Nat.lt_succ_self _, Is.refl _, Kh⟩
 ·rintro (_ | n_2) i_1 ⟨hm4, hF3, hi5⟩
  ·omega
  refine fT ?_
  refine cO ?_
  refine Z9 ?_
  refine Au rfl (fun hq4 => ?_) (fun hq4 => ?_)
  rotate_left
  ·refine Ca ?_
   refine La ?_
   refine Ab results19 z1 (fun w1 hw1 => ?_)
   exact ⟨(rq ((((hF.f hq1).neg hq2).neg hq3).ok1 (hF3.neg hq4))), hw1.ext_out⟩
  refine jJ ?_
  refine Fi Da 12 [(true, 0), (true, 1), (true, 2), (true, 3), (true, 4), (true, 5), (true, 6), (true, 7), (true, 8), (true, 9), (false, 10), (true, 11)] z4 ?_
  refine lT ?_
  refine Aw (Cb (n := a.l.length) runUnderlying26 sizeOf52 i_1 (Ds.of_base Dc h_a_l).sl (Cv h_a_l.1 z3) (Br h_a_l.1)) (k := ?_)
  have hcp5 := (h_a_l.2.2 i_1 z3).2.2.1
  have hcp6 := (h_a_l.2.2 i_1 z3).2.2.2
  refine Aw (Cn isAgg52 sizeOf52 i_1 (Ds.of_base Dc h_a_l).sl (Cv h_a_l.1 z3)) (k := ?_)
  refine lT ?_
  refine Aw (Cb (n := b.l.length) runUnderlying26 sizeOf52 i_1 (Ds.of_base Dc h_b_l).sl (Cv h_b_l.1 z3) (Br h_b_l.1)) (k := ?_)
  have hcp7 := (h_b_l.2.2 i_1 z3).2.2.1
  have hcp8 := (h_b_l.2.2 i_1 z3).2.2.2
  refine Aw (Cn isAgg52 sizeOf52 i_1 (Ds.of_base Dc h_b_l).sl (Cv h_b_l.1 z3)) (k := ?_)
  refine AF9 (Ad call27) (fun w1 hw1 => fA w1 (a := (a.l.getD i_1 default)) (b := (b.l.getD i_1 default)) (h_a_rules := (fun w hw => ((Ds.of_base Dc h_a_l).at (m := i_1) z3 w hw).1) w1 hw1) (n_a_rules := by first | omega | exact Nat.le_trans (hsm _ z2).1 Gi | exact Nat.le_trans (hsm _ z2).2 Gi | exact Nat.le_trans (hsm2 _ z2).1 Gi | exact Nat.le_trans (hsm2 _ z2).2 Gi) (h_a_creds := (fun w hw => ((Ds.of_base Dc h_a_l).at (m := i_1) z3 w hw).2.1) w1 hw1) (n_a_creds := by first | omega | exact Nat.le_trans (hsm _ z2).1 Gi | exact Nat.le_trans (hsm _ z2).2 Gi | exact Nat.le_trans (hsm2 _ z2).1 Gi | exact Nat.le_trans (hsm2 _ z2).2 Gi) (h_b_rules := (fun w hw => ((Ds.of_base Dc h_b_l).at (m := i_1) z3 w hw).1) w1 hw1) (n_b_rules := by first | omega | exact Nat.le_trans (hsm _ z2).1 Gi | exact Nat.le_trans (hsm _ z2).2 Gi | exact Nat.le_trans (hsm2 _ z2).1 Gi | exact Nat.le_trans (hsm2 _ z2).2 Gi) (h_b_creds := (fun w hw => ((Ds.of_base Dc h_b_l).at (m := i_1) z3 w hw).2.1) w1 hw1) (n_b_creds := by first | omega | exact Nat.le_trans (hsm _ z2).1 Gi | exact Nat.le_trans (hsm _ z2).2 Gi | exact Nat.le_trans (hsm2 _ z2).1 Gi | exact Nat.le_trans (hsm2 _ z2).2 Gi)) (k := ?_)
  refine Aw Lv (k := ?_)
  refine Xd ?_
  refine Ct rfl (fun hq9 => ?_) (fun hq9 => ?_)
  rotate_left
  ·refine Bq ?_
   refine Po ?_
   exact Dp n_2 (i_1 + 1) ⟨by omega, ((hF3.pos hq4).f hq9), z2⟩ (Nat.lt_succ_self _) se (List.Perm.refl _)
  refine Sa ?_
  refine Ab results19 z1 (fun w1 hw1 => ?_)
  exact ⟨(rq ((((hF.f hq1).neg hq2).neg hq3).er1 ((hF3.pos hq4).t hq9))), hw1.ext_out⟩

end Go.Proofs.YtopjaeoklkpcpaaGreatDoor.Jd

namespace Go.Proofs.YtopjaeoklkpcpaaGreatDoor.Jd
open Go.Proofs.Tryz
set_option linter.unusedVariables false
set_option linter.unusedSimpArgs false
theorem Mm {l : List Aa} : Bk l ↔ ∀ t ∈ l, t.rules.length ≤ 1000 ∧ t.creds.length ≤ 1000 := by
  constructor
  · intro h t ht
    obtain ⟨k, hk, rfl⟩ := List.getElem_of_mem ht
    have := h k hk
    simpa [List.getD, hk] using this
  · intro h i hi
    refine h _ ?_
    rw [List.getD_eq_getElem?_getD, List.getElem?_eq_getElem hi]; exact List.getElem_mem hi
theorem Bk.nil : Bk [] := fun i hi => by simp at hi
theorem Bk.at {l : List Aa} (h : Bk l) (i : Nat) : (l.getD i default).rules.length ≤ 1000 ∧ (l.getD i default).creds.length ≤ 1000 := by
  by_cases hi : i < l.length
  · exact h i hi
  · have e : l.getD i default = default := by rw [List.getD_eq_getElem?_getD, List.getElem?_eq_none z2]; rfl
    rw [e]; exact ⟨by decide, by decide⟩
theorem Bk.cons {t : Aa} {l : List Aa} (h1 : t.rules.length ≤ 1000 ∧ t.creds.length ≤ 1000) (h : Bk l) : Bk (t :: l) := by
  rw [Mm] at h ⊢
  intro u hu
  rcases List.mem_cons.1 hu with rfl | hu
  · exact h1
  · exact h u hu
theorem Bk.append {a b : List Aa} (h : Bk a) (h2 : Bk b) : Bk (a ++ b) := by
  rw [Mm] at h h2 ⊢
  intro u hu
  rcases List.mem_append.1 hu with hu | hu
  · exact h u hu
  · exact h2 u hu
theorem Bk.one {t : Aa} (h1 : t.rules.length ≤ 1000) (h2 : t.creds.length ≤ 1000) : Bk [t] := Bk.cons ⟨h1, h2⟩ Bk.nil
theorem Bk.take {a : List Aa} (h : Bk a) (n : Nat) : Bk (a.take n) := by
  rw [Mm] at h ⊢
  exact fun u hu => h u (List.mem_of_mem_take hu)
theorem Bk.drop {a : List Aa} (h : Bk a) (n : Nat) : Bk (a.drop n) := by
  rw [Mm] at h ⊢
  exact fun u hu => h u (List.mem_of_mem_drop hu)
theorem Bk.delL {a : List Aa} (h : Bk a) (i j : Nat) : Bk (delL a i j) := (h.take i).append (h.drop j)
theorem Bk.put : ∀ {l : List Aa} {x : Aa}, Bk l → (x.rules.length ≤ 1000 ∧ x.creds.length ≤ 1000) → Bk (Fp l x)
  | [], x, h, hx => Bk.cons hx Bk.nil
  | t :: r, x, h, hx => by
    have hr : Bk r := by
      rw [Mm] at h ⊢
      exact fun u hu => h u (List.mem_cons_of_mem _ hu)
    have ht : t.rules.length ≤ 1000 ∧ t.creds.length ≤ 1000 := by
      rw [Mm] at h
      exact h t List.mem_cons_self
    unfold Fp
    split
    · exact Bk.cons ht (hr.put hx)
    · split
      · exact Bk.cons hx hr
      · exact Bk.cons hx h
theorem aT (l : List Bw) : ∀ n out i, out.length ≤ i → i ≤ 6 → (Qz l n out i).1.length ≤ 6
  | 0, out, i, h1, h2 => by simp only [Qz]; omega
  | n + 1, out, i, h1, h2 => by
    unfold Qz
    split
    · split
      · exact aT l n _ (i + 1) cJ z2
      · simp only; omega
    · simp only; omega
theorem H9 (l : List Bw) : (Tb l).length ≤ 6 := aT l 7 [] 0 Hb z2
theorem wJ (l : List Bf) : (Jj l).length ≤ 18 := by unfold Jj; rw [List.length_take]; omega
theorem Vp (r : Ac) : ∀ n i acc, Bk acc → Bk (Uk r n i acc).2
  | 0, i, acc, h => h
  | n + 1, i, acc, h => by
    unfold Uk
    split
    · split
      · refine Vp r n (i + 1) _ (h.append (Bk.one ?_ ?_))
        · exact Nat.le_trans (wJ _) Gi
        · exact Nat.le_trans (H9 _) Gi
      · exact h
    · exact h
theorem Rc (r : Ac) : Bk (Bj r).l := Vp r 9 0 [] Bk.nil
theorem sU (r : Ac) : (Bj r).slots.gens.length ≤ 66 ∧ (Bj r).slots.used.length ≤ 66 ∧ (Bj r).slots.free.length ≤ 66 := by
  refine ⟨?_, ?_, ?_⟩
  · show (List.take _ _).length ≤ 66
    rw [List.length_take]; omega
  · show (List.take _ _).length ≤ 66
    rw [List.length_take]; omega
  · show (List.take _ _).length ≤ 66
    rw [List.length_take]; omega
theorem gQ (l : List Bf) (a : Int) (r : Bf) : (De l a r).1.length ≤ 1000 := by
  unfold De
  repeat' split
  all_goals first | (simp; done) | skip
  show (Py l a.toNat r).length ≤ 1000
  rw [Gq z2]; omega
theorem gR {l : List Bf} (a : Int) (h : l.length ≤ 1000) : (Dk l a).1.length ≤ 1000 := by
  unfold Dk
  repeat' split
  all_goals first | (simp; done) | skip
  show (delL l a.toNat (a + 1).toNat).length ≤ 1000
  rw [Gr z2 z2]; omega
theorem nV (l : List Bw) (key : Ap) (now overlap span : Int) : (Fg l key now overlap span).1.length ≤ 1000 := by
  unfold Fg
  repeat' split
  all_goals first | (simp; done) | skip
  generalize Ib l key now overlap span (l.length + 1) 0 [] 1 = x
  obtain ⟨x1, x2, x3⟩ := x
  simp only [gG]
  repeat' split
  all_goals first | (simp; done) | skip
  show (x2 ++ [Bw.mk x3 key now (now + span)]).length ≤ 1000
  omega
theorem X4 {α : Type} {P : α → Prop} {c : Prop} [Decidable c] {a b : α} (h1 : P a) (h2 : P b) : P (if c then a else b) := by split <;> assumption
theorem Md {r : Ac} (role : Int) (c : Ak) (now : Int) (h : Bk r.l) : Bk (Aq r role c now).1.l := by
  have hx := h.at (xN r c)
  unfold Aq
  simp only [Ia, Ka]
  show (fun x : Ac × Cm => Bk x.1.l) _
  repeat' (refine X4 (P := fun x : Ac × Cm => Bk x.1.l) ?_ ?_)
  all_goals first
    | exact Bk.nil
    | exact h
    | exact h.delL _ _
    | exact h.put hx
    | exact h.put ⟨Nat.zero_le _, nV _ _ _ _ _⟩
    | exact h.put ⟨hx.1, nV _ _ _ _ _⟩
    | exact h.put ⟨gQ _ _ _, hx.2⟩
    | exact h.put ⟨gR _ hx.1, hx.2⟩

end Go.Proofs.YtopjaeoklkpcpaaGreatDoor.Jd

namespace Go.Proofs.YtopjaeoklkpcpaaGreatDoor.Jd
open Go.Proofs.Tryz
open Go.Proofs
open Go.RowKit (Below)
set_option maxRecDepth 100000
set_option maxHeartbeats 8000000
set_option linter.unusedVariables false
set_option linter.unusedSimpArgs false

theorem AB0 : Hq Tryz.prog 36 [(0, 1), (1, 1), (2, 1), (3, 1), (4, 5), (9, 1), (10, 1), (11, 1)] := ⟨_, fun w => runUnderlying36 w, fun w => by simp⟩
theorem AJ5 (a0 b0 : Int) (a1 b1 : Int) (a2 b2 : Int) (a3 b3 : Int) (a4 b4 : Int) (a5 b5 : Int) (n : Nat) (w : World) : (Op.equalIn (n + 3) 44 (Value.agg [vi a0, vi a1, vi a2, vi a3, vi a4, vi a5].toArray) (Value.agg [vi b0, vi b1, vi b2, vi b3, vi b4, vi b5].toArray)).run Tryz.prog w = .ok (decide (a0 = b0 ∧ a1 = b1 ∧ a2 = b2 ∧ a3 = b3 ∧ a4 = b4 ∧ a5 = b5)) w := by
 have hs0 := pU a2 b2 a3 b3 n w
 rw [show n + 3 = (n + 2) + 1 from rfl]
 unfold Op.equalIn
 simp [part, Tw (P := Tryz.prog) (t := 3) (n + 1) .i64 _ _ runUnderlying3, Tw (P := Tryz.prog) (t := 40) (n + 1) .i64 _ _ runUnderlying40, hs0] at *
 by_cases h0 : a0 = b0 <;> by_cases h1 : a1 = b1 <;> by_cases h2 : a2 = b2 <;> by_cases h3 : a3 = b3 <;> by_cases h4 : a4 = b4 <;> by_cases h5 : a5 = b5 <;> simp_all
theorem AB1 (x y : Operand) (a0 b0 : Int) (a1 b1 : Int) (a2 b2 : Int) (a3 b3 : Int) (a4 b4 : Int) (a5 b5 : Int) (w : World) : (do eqGuard .eql 44 x y (Value.agg [vi a0, vi a1, vi a2, vi a3, vi a4, vi a5].toArray) (Value.agg [vi b0, vi b1, vi b2, vi b3, vi b4, vi b5].toArray); binOp .eql 44 (Value.agg [vi a0, vi a1, vi a2, vi a3, vi a4, vi a5].toArray) (Value.agg [vi b0, vi b1, vi b2, vi b3, vi b4, vi b5].toArray) : Sem Value).run Tryz.prog w = .ok (.bool (decide (a0 = b0 ∧ a1 = b1 ∧ a2 = b2 ∧ a3 = b3 ∧ a4 = b4 ∧ a5 = b5))) w := by
 have h2 : (binOp .eql 44 (Value.agg [vi a0, vi a1, vi a2, vi a3, vi a4, vi a5].toArray) (Value.agg [vi b0, vi b1, vi b2, vi b3, vi b4, vi b5].toArray)).run Tryz.prog w = .ok (.bool (decide (a0 = b0 ∧ a1 = b1 ∧ a2 = b2 ∧ a3 = b3 ∧ a4 = b4 ∧ a5 = b5))) w := by
  show (do pure (.bool (← Op.equal 44 _ _)) : Sem Value).run Tryz.prog w = _
  simp only [Sem.run_bind, Op.equal, Op.maxDepth, AJ5 a0 b0 a1 b1 a2 b2 a3 b3 a4 b4 a5 b5 9997, Result.andThen_ok, Sem.run_pure]
 simp [eqGuard]
 simpa using h2
theorem I0 (w : World) {s_gens_a : Option Addr} {s_gens_c : Nat} {s_used_a : Option Addr} {s_used_c : Nat} {s_free_a : Option Addr} {s_free_c : Nat} {s : Ax} (h_s_gens : Sl w eI 1 s_gens_a s.gens) (k_s_gens : s.gens.length ≤ s_gens_c) (h_s_used : Sl w eB 1 s_used_a s.used) (k_s_used : s.used.length ≤ s_used_c) (h_s_free : Sl w eI 1 s_free_a s.free) (k_s_free : s.free.length ≤ s_free_c) : Hn Tryz.prog 36 [(Value.agg [(vs s_gens_a s.gens.length s_gens_c), (vs s_used_a s.used.length s_used_c), (vs s_free_a s.free.length s_free_c)].toArray)] w (Value.agg [(vs s_gens_a ((s.gens.take (min s.gens.length 66)).length) s_gens_c), (vs s_used_a ((s.used.take (min s.used.length 66)).length) s_used_c), (vs s_free_a ((s.free.take (min s.free.length 66)).length) s_free_c)].toArray) := by
 have hF := Is.refl s
 refine enter func36 ntmps36 (h := ?_)
 refine Z2 ?_
 refine Ah Ag Jp (k := fun r1 hr1 => ?_)
 refine Ah Ag jB (k := fun r2 hr2 => ?_)
 refine Me ?_
 refine Fi Da 22 [(true, 0), (true, 1), (true, 2), (true, 3), (true, 4), (true, 5), (true, 6), (true, 7), (true, 8), (true, 9), (true, 10), (true, 11), (true, 12), (true, 13), (true, 14), (true, 15), (true, 16), (true, 17), (true, 18), (true, 19), (true, 20), (true, 21)] z4 ?_
 refine J9 ?_
 refine J9 ?_
 refine Aw Y1 (k := ?_)
 refine Aw aD (k := ?_)
 have hl1 : (s.gens.take (min s.gens.length 66)).length = (min s.gens.length 66) := by rw [List.length_take]; first | (split <;> omega) | omega
 refine Aw (Fz (s.gens.take (min s.gens.length 66)).length runUnderlying22 (fun w => ⟨_, sizeOf3 w⟩) (hm := z2) (hi := by first | (split <;> omega) | omega)) (k := ?_)
 refine lM ?_
 refine lM ?_
 refine Aw (Ei runUnderlying23) (k := ?_)
 refine Aw aD (k := ?_)
 have hl2 : (s.used.take (min s.used.length 66)).length = (min s.used.length 66) := by rw [List.length_take]; first | (split <;> omega) | omega
 refine Aw (Fz (s.used.take (min s.used.length 66)).length runUnderlying23 (fun w => ⟨_, sizeOf4 w⟩) (hm := z2) (hi := by first | (split <;> omega) | omega)) (k := ?_)
 refine jE ?_
 refine jE ?_
 refine Aw Y1 (k := ?_)
 refine Aw aD (k := ?_)
 have hl3 : (s.free.take (min s.free.length 66)).length = (min s.free.length 66) := by rw [List.length_take]; first | (split <;> omega) | omega
 refine Aw (Fz (s.free.take (min s.free.length 66)).length runUnderlying22 (fun w => ⟨_, sizeOf3 w⟩) (hm := z2) (hi := by first | (split <;> omega) | omega)) (k := ?_)
 refine Aw z55 (k := ?_)
 refine Gb ?_
 refine lZ ?_
 refine rO ?_
 refine Ab results36 (Fb.agg isAgg25 sizeOf25 rfl me rfl Fb.nil) (fun w1 hw1 => ?_)
 exact ⟨by first | rfl | (simp only [List.length_take]; rfl), hw1.ext_out⟩

theorem sV (w : World) {r_Sg_a : Option Addr} {r_Sg_c : Nat} {r_Su_a : Option Addr} {r_Su_c : Nat} {r_Sf_a : Option Addr} {r_Sf_c : Nat} {r_l_a : Option Addr} {r_l_c : Nat} {r_l_t : List TA} {r : Ac} (h_r_Sg : Sl w eI 1 r_Sg_a r.slots.gens) (k_r_Sg : r.slots.gens.length ≤ r_Sg_c) (h_r_Su : Sl w eB 1 r_Su_a r.slots.used) (k_r_Su : r.slots.used.length ≤ r_Su_c) (h_r_Sf : Sl w eI 1 r_Sf_a r.slots.free) (k_r_Sf : r.slots.free.length ≤ r_Sf_c) (h_r_l : Rm w Bu 8 DT r_l_a r.l r_l_t) (k_r_l : r.l.length ≤ r_l_c) : Calls Tryz.prog 15 (List.toArray [(Value.agg [(vs r_Sg_a r.slots.gens.length r_Sg_c), (vs r_Su_a r.slots.used.length r_Su_c), (vs r_Sf_a r.slots.free.length r_Sf_c), (vs r_l_a r.l.length r_l_c), (vi r.seq)].toArray)]) w fun e w2 => ∃ a1 : Option Addr, ∃ c1 : Nat, ∃ t1 : List TA, ∃ B : Aj, e = .returned (Value.agg [(vs r_Sg_a ((Bj r).slots.gens.length) r_Sg_c), (vs r_Su_a ((Bj r).slots.used.length) r_Su_c), (vs r_Sf_a ((Bj r).slots.free.length) r_Sf_c), (vs a1 ((Bj r).l.length) c1), (vi ((Bj r).seq))].toArray) ∧ Dh w w2 B ∧ (Cx B Bu 8 DT a1 (Bj r).l t1 ∧ (Bj r).l.length ≤ c1) ∧ (Bj r).l.length ≤ 8 := by
 have hF := Is.refl (Bj r)
 refine enter func15 ntmps15 (h := ?_)
 refine Z2 ?_
 refine Ah Ag Vf (k := fun r1 hr1 => ?_)
 refine Ah Ag Wy (k := fun r2 hr2 => ?_)
 refine Me ?_
 refine bX (σ1 := Nat) (fun r143 => ((r143, oc [(vs r_Sg_a ((r.slots.gens.take (min r.slots.gens.length 66)).length) r_Sg_c), (vs r_Su_a ((r.slots.used.take (min r.slots.used.length 66)).length) r_Su_c), (vs r_Sf_a ((r.slots.free.take (min r.slots.free.length 66)).length) r_Sf_c), (vs none 0 0), (vi r.seq)] 28) :: ((r2, oc [(vs none 0 0), (vs none 0 0), (vs none 0 0), (vs none 0 0), (vi 0)] 28) :: ((r1, oc [(vs r_Sg_a r.slots.gens.length r_Sg_c), (vs r_Su_a r.slots.used.length r_Su_c), (vs r_Sf_a r.slots.free.length r_Sf_c), (vs r_l_a r.l.length r_l_c), (vi r.seq)] 28) :: [])))) (fun r143 => [(1, (Value.pointer (some ⟨r1, 0, none⟩))), (2, (Value.pointer (some ⟨r2, 0, none⟩))), (3, (Value.pointer (some ⟨r143, 0, none⟩)))]) (fun r143 => Is () ()) ?_ ?_
 ·skip
  refine Xo (V := []) Da 7 z4 ?_
  refine Ez 0 rfl z4 (Ai Yn) (k := ?_)
  refine Ez 1 rfl z4 z66 (k := ?_)
  refine Ez 3 rfl z4 (Ai Ol) (k := ?_)
  refine Ez 4 rfl z4 xH (k := ?_)
  refine Cr [2, 6] z4 rfl (List.forall_mem_cons.2 ⟨?_, (List.forall_mem_cons.2 ⟨?_, nofun⟩)⟩)
  ·skip
   refine AM7 ?_
   refine Cr [6] z4 rfl (List.forall_mem_cons.2 ⟨?_, nofun⟩)
   ·skip
    refine Lf rfl Ag Wy (k := fun r143 hr143 => ?_)
    refine Zl z4 _ ?_
    refine My nE ?_
    refine cZ ?_
    refine Eh ?_
    exact Li r143 (Is.refl ()) se (List.Perm.refl _)
  ·skip
   refine Lf rfl Ag Wy (k := fun r143 hr143 => ?_)
   refine Cr [2] z4 rfl (List.forall_mem_cons.2 ⟨?_, nofun⟩)
   ·skip
    refine AM7 ?_
    refine Zl z4 _ ?_
    refine My nE ?_
    refine cZ ?_
    refine Eh ?_
    exact Li r143 (Is.refl ()) se (List.Perm.refl _)
 intro r143 hJ1
 refine cT ?_
 refine Pn ?_
 refine bV (σ1 := Nat) (σ2 := Nat) (σ3 := List Aa) (σ4 := List TA) (σ5 := Option Addr) (σ6 := Nat) (σ7 := Aj) (σ8 := Aj) (fun n_4 i_2 x_3 x_3t x_3a x_3c x_3B x_3R => (x_3B ++ (x_3R ++ ((r143, oc [(vs r_Sg_a ((r.slots.gens.take (min r.slots.gens.length 66)).length) r_Sg_c), (vs r_Su_a ((r.slots.used.take (min r.slots.used.length 66)).length) r_Su_c), (vs r_Sf_a ((r.slots.free.take (min r.slots.free.length 66)).length) r_Sf_c), (vs x_3a x_3.length x_3c), (vi r.seq)] 28) :: ((r2, oc [(vs none 0 0), (vs none 0 0), (vs none 0 0), (vs none 0 0), (vi 0)] 28) :: ((r1, oc [(vs r_Sg_a r.slots.gens.length r_Sg_c), (vs r_Su_a r.slots.used.length r_Su_c), (vs r_Sf_a r.slots.free.length r_Sf_c), (vs r_l_a r.l.length r_l_c), (vi r.seq)] 28) :: [])))))) (fun n_4 i_2 x_3 x_3t x_3a x_3c x_3B x_3R => [(1, (Value.pointer (some ⟨r1, 0, none⟩))), (2, (Value.pointer (some ⟨r2, 0, none⟩))), (3, (Value.pointer (some ⟨r143, 0, none⟩))), (4, (vi ((i_2 : Nat) : Int)))]) (fun n_4 i_2 x_3 x_3t x_3a x_3c x_3B x_3R => 8 - i_2 < n_4 ∧ Is (Uk r (8 + 1) 0 []) (Uk r n_4 i_2 x_3) ∧ (Bi Bu 8 52 x_3a x_3c x_3B (List.zip x_3 x_3t) ∧ Bs x_3R DT x_3 x_3t) ∧ x_3.length ≤ i_2 ∧ i_2 ≤ 8 ∧ i_2 ≤ r.l.length) (fun n_4 i_2 x_3 x_3t x_3a x_3c x_3B x_3R => n_4) (8 + 1) 0 ([]) ([]) none 0 ([]) ([]) ?_ se oH ?_
 ·exact ⟨Nat.lt_succ_self _, Is.refl _, ⟨Bi.nil, Bs.nil⟩, Kh, Kh, Kh⟩
 ·rintro (_ | n_4) i_2 x_3 x_3t x_3a x_3c x_3B x_3R ⟨hm6, hF5, ⟨hx_3, hdx_3⟩, hi7, hi8, hi9⟩
  ·omega
  refine fT ?_
  refine cO ?_
  refine Rx ?_
  refine Ao 17 rfl (fun hq1 => ?_) (fun hq1 => ?_)
  rotate_left
  ·refine Ae 2 rfl ?_
   refine Qh ?_
   refine tF ?_
   refine oM ?_
   refine bG ?_
   refine Ab results15 rK (fun w1 hw1 => ?_)
   exact ⟨x_3a, x_3c, x_3t, (x_3B ++ x_3R), (rq ((hF.rn0 hJ1).rn2 (hF5.neg hq1))), (Ba (L := (x_3B ++ x_3R)) (hw1.perm (List.Perm.refl _)) (nA rfl).symm), (by rw [((hF.rn0 hJ1).rn2 (hF5.neg hq1)).eq]; exact ⟨((Bi.nb (U := (x_3B ++ x_3R)) Av hx_3 hdx_3 (hB := sh) (hR := sh)).mono sh), (by have h0 := hx_3.le'; rwa [Br hdx_3.1] at h0)⟩), (by rw [((hF.rn0 hJ1).rn2 (hF5.neg hq1)).eq]; first | exact lb | (simp; done))⟩
  refine Q0 ?_
  refine xB ?_
  refine Au rfl (fun hq2 => ?_) (fun hq2 => ?_)
  rotate_left
  ·refine Ca ?_
   refine oM ?_
   refine bG ?_
   refine Ab results15 rK (fun w1 hw1 => ?_)
   exact ⟨x_3a, x_3c, x_3t, (x_3B ++ x_3R), (rq ((hF.rn0 hJ1).rn2 ((hF5.pos hq1).neg hq2))), (Ba (L := (x_3B ++ x_3R)) (hw1.perm (List.Perm.refl _)) (nA rfl).symm), (by rw [((hF.rn0 hJ1).rn2 ((hF5.pos hq1).neg hq2)).eq]; exact ⟨((Bi.nb (U := (x_3B ++ x_3R)) Av hx_3 hdx_3 (hB := sh) (hR := sh)).mono sh), (by have h0 := hx_3.le'; rwa [Br hdx_3.1] at h0)⟩), (by rw [((hF.rn0 hJ1).rn2 ((hF5.pos hq1).neg hq2)).eq]; first | exact lb | (simp; done))⟩
  refine xC ?_
  refine xD ?_
  refine AO4 ?_
  have hcp3 := (h_r_l.2.2 i_2 z3).2.2.1
  have hcp4 := (h_r_l.2.2 i_2 z3).2.2.2
  refine Af (Cn isAgg52 sizeOf52 i_2 (Ds.of_base Dc h_r_l).sl (Cv h_r_l.1 z3)) (k := ?_)
  refine Ah Ag Ur (k := fun r183 hr183 => ?_)
  refine L4 ?_
  refine Z2 ?_
  refine oS ?_
  refine oS ?_
  refine yO ?_
  refine Af aD (k := ?_)
  refine Af (dN (s := ((r.l.getD i_2 default).name)) (min ((r.l.getD i_2 default).name).length 41) runUnderlying9 z2 (hj := by first | (split <;> omega) | (dsimp only; split <;> omega))) (k := ?_)
  have hsb3 : (((r.l.getD i_2 default).name).take (min ((r.l.getD i_2 default).name).length 41)).length = (min ((r.l.getD i_2 default).name).length 41) := by first | omega | (simp only [List.length_take, List.length_drop, List.length_cons, List.length_nil] <;> omega)
  refine Af (Ai Om) (k := ?_)
  refine Gw (Bt (l' := [_, _, _, _, _, _, _, _]) sizeOf9) (k := ?_)
  refine Uw ?_
  refine O1 ?_
  refine Gy (Ad call37) (fun w1 hw1 => H0 w1 (l := ((r.l.getD i_2 default).rules)) (h_l := (fun w hw => ((Ds.of_base Dc h_r_l).at (m := i_2) z3 w hw).1) w1 hw1) (k_l := z6)) (k := ?_)
  rintro w1_181 e1_181 w2_181 hw1_181 ⟨a1_181, c1_181, B1_181, he_181, hf_181, ho1_181, hl1_181⟩
  refine ⟨_, _, he_181, hw1_181.fresh hf_181, ?_⟩
  refine Af (Ai Oo) (k := ?_)
  refine Gw (Bt (l' := [_, _, _, _, _, _, _, _]) sizeOf49) (k := ?_)
  refine Uw ?_
  refine Af (Ai Qw) (k := ?_)
  refine Af (Bv isAgg50) (k := ?_)
  refine Gy (Ad call38) (fun w1 hw1 => X1 w1 (l := ((r.l.getD i_2 default).creds)) (h_l := (fun w hw => ((Ds.of_base Dc h_r_l).at (m := i_2) z3 w hw).2.1) w1 hw1)) (k := ?_)
  rintro w1_182 e1_182 w2_182 hw1_182 ⟨a1_182, c1_182, B1_182, he_182, hf_182, ho1_182, hl1_182⟩
  refine ⟨_, _, he_182, hw1_182.fresh hf_182, ?_⟩
  refine Af (Ai Qw) (k := ?_)
  refine Gw (Bt (l' := [_, _, _, _, _, _, _, _]) sizeOf50) (k := ?_)
  refine Z0 ?_
  refine Cs ?_
  refine xD ?_
  refine uD ?_
  refine Ah Ag J5 (k := fun r184 hr184 => ?_)
  refine Az (List.zip (x_3 ++ ([(Aa.mk ((r.l.getD i_2 default).handle) (((r.l.getD i_2 default).name).take (min ((r.l.getD i_2 default).name).length 41)) ((r.l.getD i_2 default).state) ((r.l.getD i_2 default).version) (Jj ((r.l.getD i_2 default).rules)) (Tb ((r.l.getD i_2 default).creds)) ((r.l.getD i_2 default).deadline))] : List Aa)) (x_3t ++ ([⟨a1_181, c1_181, a1_182, c1_182⟩] : List TA))) (List.zip_append hdx_3.1.symm).symm Gd underlying26 Av hx_3 (qb (qd (qd (qb q0)))) (Bi.nj Av (Bi.mk (xs := List.zip ([(Aa.mk ((r.l.getD i_2 default).handle) (((r.l.getD i_2 default).name).take (min ((r.l.getD i_2 default).name).length 41)) ((r.l.getD i_2 default).state) ((r.l.getD i_2 default).version) (Jj ((r.l.getD i_2 default).rules)) (Tb ((r.l.getD i_2 default).creds)) ((r.l.getD i_2 default).deadline))] : List Aa) ([⟨a1_181, c1_181, a1_182, c1_182⟩] : List TA)) rfl rfl Av) (Bs.one (B := (B1_181 ++ (B1_182 ++ []))) (D := DT) (x := (Aa.mk ((r.l.getD i_2 default).handle) (((r.l.getD i_2 default).name).take (min ((r.l.getD i_2 default).name).length 41)) ((r.l.getD i_2 default).state) ((r.l.getD i_2 default).version) (Jj ((r.l.getD i_2 default).rules)) (Tb ((r.l.getD i_2 default).creds)) ((r.l.getD i_2 default).deadline))) (t := (⟨a1_181, c1_181, a1_182, c1_182⟩ : TA)) (fun w hw => ⟨(ho1_181.sl Ck (Em hw)), (ho1_182.sl Ed (Em hw)), ho1_181.le', ho1_182.le'⟩)) (hB := sh) (hR := sh)).sl ⟨by first | exact lb, by first | exact lb⟩ (n := x_3.length) (m := 1) (hn := (Br hdx_3.1)) (hm := (Br (Bs.one (B := (B1_181 ++ (B1_182 ++ []))) (D := DT) (x := (Aa.mk ((r.l.getD i_2 default).handle) (((r.l.getD i_2 default).name).take (min ((r.l.getD i_2 default).name).length 41)) ((r.l.getD i_2 default).state) ((r.l.getD i_2 default).version) (Jj ((r.l.getD i_2 default).rules)) (Tb ((r.l.getD i_2 default).creds)) ((r.l.getD i_2 default).deadline))) (t := (⟨a1_181, c1_181, a1_182, c1_182⟩ : TA)) (fun w hw => ⟨(ho1_181.sl Ck (Em hw)), (ho1_182.sl Ed (Em hw)), ho1_181.le', ho1_182.le'⟩)).1)) (k := fun ax181 cx181 Bx181 hox181 => ?_)
  have hzl181 : (List.zip (x_3 ++ ([(Aa.mk ((r.l.getD i_2 default).handle) (((r.l.getD i_2 default).name).take (min ((r.l.getD i_2 default).name).length 41)) ((r.l.getD i_2 default).state) ((r.l.getD i_2 default).version) (Jj ((r.l.getD i_2 default).rules)) (Tb ((r.l.getD i_2 default).creds)) ((r.l.getD i_2 default).deadline))] : List Aa)) (x_3t ++ ([⟨a1_181, c1_181, a1_182, c1_182⟩] : List TA))).length = (x_3 ++ ([(Aa.mk ((r.l.getD i_2 default).handle) (((r.l.getD i_2 default).name).take (min ((r.l.getD i_2 default).name).length 41)) ((r.l.getD i_2 default).state) ((r.l.getD i_2 default).version) (Jj ((r.l.getD i_2 default).rules)) (Tb ((r.l.getD i_2 default).creds)) ((r.l.getD i_2 default).deadline))] : List Aa)).length := Br (by rw [List.length_append, List.length_append, hdx_3.1, (Bs.one (B := (B1_181 ++ (B1_182 ++ []))) (D := DT) (x := (Aa.mk ((r.l.getD i_2 default).handle) (((r.l.getD i_2 default).name).take (min ((r.l.getD i_2 default).name).length 41)) ((r.l.getD i_2 default).state) ((r.l.getD i_2 default).version) (Jj ((r.l.getD i_2 default).rules)) (Tb ((r.l.getD i_2 default).creds)) ((r.l.getD i_2 default).deadline))) (t := (⟨a1_181, c1_181, a1_182, c1_182⟩ : TA)) (fun w hw => ⟨(ho1_181.sl Ck (Em hw)), (ho1_182.sl Ed (Em hw)), ho1_181.le', ho1_182.le'⟩)).1])
  rw [hzl181]
  have hal181 : (x_3 ++ ([(Aa.mk ((r.l.getD i_2 default).handle) (((r.l.getD i_2 default).name).take (min ((r.l.getD i_2 default).name).length 41)) ((r.l.getD i_2 default).state) ((r.l.getD i_2 default).version) (Jj ((r.l.getD i_2 default).rules)) (Tb ((r.l.getD i_2 default).creds)) ((r.l.getD i_2 default).deadline))] : List Aa)).length = x_3.length + 1 := List.length_append
  have hdp5 : Bs (x_3R ++ (B1_181 ++ (B1_182 ++ []))) DT (x_3 ++ ([(Aa.mk ((r.l.getD i_2 default).handle) (((r.l.getD i_2 default).name).take (min ((r.l.getD i_2 default).name).length 41)) ((r.l.getD i_2 default).state) ((r.l.getD i_2 default).version) (Jj ((r.l.getD i_2 default).rules)) (Tb ((r.l.getD i_2 default).creds)) ((r.l.getD i_2 default).deadline))] : List Aa)) (x_3t ++ ([⟨a1_181, c1_181, a1_182, c1_182⟩] : List TA)) := Bs.append (hdx_3.mono sh) ((Bs.one (B := (B1_181 ++ (B1_182 ++ []))) (D := DT) (x := (Aa.mk ((r.l.getD i_2 default).handle) (((r.l.getD i_2 default).name).take (min ((r.l.getD i_2 default).name).length 41)) ((r.l.getD i_2 default).state) ((r.l.getD i_2 default).version) (Jj ((r.l.getD i_2 default).rules)) (Tb ((r.l.getD i_2 default).creds)) ((r.l.getD i_2 default).deadline))) (t := (⟨a1_181, c1_181, a1_182, c1_182⟩ : TA)) (fun w hw => ⟨(ho1_181.sl Ck (Em hw)), (ho1_182.sl Ed (Em hw)), ho1_181.le', ho1_182.le'⟩)).mono sh)
  refine Af (Ai Kf) (k := ?_)
  refine Gw (Bt (l' := [_, _, _, _, _]) sizeOf26) (k := ?_)
  refine Eh ?_
  refine Xb ?_
  refine Fk _ (sa (sd (sa (sa (sd (sa (sk (sk (sk sz))))))))) ?_
  refine Cs ?_
  refine fP ?_
  refine Ci _ (((((((qc (qc (qc (qc (qa (qa q0)))))).trans (qa (qc (qc (qc (qc (qa q0))))))).trans (qa (qa (qc (qc (qc (qc q0))))))).trans (qb (qb (qb (qd q0))))).trans (qd (qb (qb (qb (qd q0)))))).trans (qd (qd (qb (qb (qb (qd q0))))))).trans (qd (qd (qd (qb (qb (qb q0))))))) ?_
  exact Ip n_4 (i_2 + 1) (x_3 ++ ([(Aa.mk ((r.l.getD i_2 default).handle) (((r.l.getD i_2 default).name).take (min ((r.l.getD i_2 default).name).length 41)) ((r.l.getD i_2 default).state) ((r.l.getD i_2 default).version) (Jj ((r.l.getD i_2 default).rules)) (Tb ((r.l.getD i_2 default).creds)) ((r.l.getD i_2 default).deadline))] : List Aa)) (x_3t ++ ([⟨a1_181, c1_181, a1_182, c1_182⟩] : List TA)) ax181 cx181 Bx181 (x_3R ++ (B1_181 ++ B1_182)) ⟨by omega, ((hF5.pos hq1).pos hq2), ⟨hox181, (hdp5.mono sh)⟩, z2, z2, z2⟩ (Nat.lt_succ_self _) se oH

end Go.Proofs.YtopjaeoklkpcpaaGreatDoor.Jd

namespace Go.Proofs.YtopjaeoklkpcpaaGreatDoor.Jd
open Go.Proofs.Tryz
open Go.Proofs
set_option linter.unusedVariables false
set_option linter.unusedSimpArgs false
theorem pj {A B : Aj} (h : A = B := by first | rfl | (simp only [List.append_assoc, List.cons_append, List.nil_append]; done) | (simp only [List.append_assoc, List.cons_append, List.nil_append]; rfl)) : List.Perm A B := List.Perm.of_eq h
def wE (t : TypeId) (b : Bool) (e : Int) : Value := match b with | true => .iface t (Value.agg [(Value.int .i64 e)].toArray) | false => .nilIface
section
variable {P : Program} {b0 : World} {Mk : List Nat} {N : Nat} {D : List Deferred} {L : Aj} {E E2 : Ew} {Q : Exit → Act → World → Prop} {e : Exit}
theorem kV (h : E = E2) (k : JX b0 Mk N D L E2 Q e) : JX b0 Mk N D L E Q e := h ▸ k
end
end Go.Proofs.YtopjaeoklkpcpaaGreatDoor.Jd

namespace Go.Proofs.YtopjaeoklkpcpaaGreatDoor.Jd
open Go.Proofs.Tryz
open Go.Proofs
open Go.RowKit (Below)
set_option maxRecDepth 100000
set_option maxHeartbeats 8000000
set_option linter.unusedVariables false
set_option linter.unusedSimpArgs false
def Eg (r : Ac) (role : Int) (c : Ak) (now : Int) : Ac × Cm := (if (!(Ga r)) = true then ((Ac.mk (Ax.mk ([]) ([]) ([])) ([]) 0), (Cm.mk 150 0 (Ar.mk 0 0) 0 0)) else (if 1000000000000 ≤ r.seq then ((Ac.mk (Ax.mk ([]) ([]) ([])) ([]) 0), (Cm.mk 150 0 (Ar.mk 0 0) 0 0)) else (if now < 0 then ((Ac.mk (Ax.mk ([]) ([]) ([])) ([]) 0), (Cm.mk 150 0 (Ar.mk 0 0) 0 0)) else (if 1000000000000 < now then ((Ac.mk (Ax.mk ([]) ([]) ([])) ([]) 0), (Cm.mk 150 0 (Ar.mk 0 0) 0 0)) else (if (!(Od role c.verb)) = true then ((xR r), (Cm.mk 151 (r.seq + 1) (Ar.mk 0 0) 0 0)) else (sJ (if c.verb = 1 then (if (!(Hk c.name)) = true then (true, 152, 0, 0, ([] : Ap), 0, 0, [], [], 0, r.slots.gens, r.slots.used, r.slots.free, r.l) else (if ((Am (xR r) c.name).2) = true then (true, 153, 0, 0, ([] : Ap), 0, 0, [], [], 0, r.slots.gens, r.slots.used, r.slots.free, r.l) else (if ((Ch r.slots).2.2) ≠ 0 then (true, ((Ch r.slots).2.2), 0, 0, ([] : Ap), 0, 0, [], [], 0, r.slots.gens, r.slots.used, r.slots.free, r.l) else (if ((Fg ([]) c.key now 0 c.n).2.2) ≠ 0 then (true, ((Fg ([]) c.key now 0 c.n).2.2), 0, 0, ([] : Ap), 0, 0, [], [], 0, r.slots.gens, r.slots.used, r.slots.free, r.l) else (false, 0, ((Ch r.slots).2.1.slot), ((Ch r.slots).2.1.gen), c.name, 1, 1, [], ((Fg ([]) c.key now 0 c.n).1), 0, ((Ch r.slots).1.gens), ((Ch r.slots).1.used), ((Ch r.slots).1.free), (Fp r.l (Aa.mk ((Ch r.slots).2.1) c.name 1 1 ([]) ((Fg ([]) c.key now 0 c.n).1) 0))))))) else (if c.verb = 9 then (false, 0, 0, 0, ([] : Ap), 0, 0, [], [], 0, r.slots.gens, r.slots.used, r.slots.free, r.l) else (if (!((Am (xR r) c.name).2)) = true then (true, 154, 0, 0, ([] : Ap), 0, 0, [], [], 0, r.slots.gens, r.slots.used, r.slots.free, r.l) else (Ka (if c.want ≠ 0 then (decide (c.want ≠ ((xA r c).version))) else false) (fun x_19 => (if x_19 = true then (true, 155, 0, 0, ([] : Ap), 0, 0, [], [], 0, r.slots.gens, r.slots.used, r.slots.free, r.l) else (R7 (if c.verb = 2 then (if ¬ (((xA r c).state) ≠ 2) then (true, 156, ((xA r c).state), ((xA r c).rules), ((xA r c).creds), ((xA r c).deadline)) else (false, 0, 2, ((xA r c).rules), ((xA r c).creds), 0)) else (if c.verb = 3 then (if ¬ (((xA r c).state) = 2) then (true, 156, ((xA r c).state), ((xA r c).rules), ((xA r c).creds), ((xA r c).deadline)) else (false, 0, 1, ((xA r c).rules), ((xA r c).creds), 0)) else (if c.verb = 4 then (if ¬ (((xA r c).state) = 1) then (true, 156, ((xA r c).state), ((xA r c).rules), ((xA r c).creds), ((xA r c).deadline)) else (if c.n < 1 then (true, 2, 3, ((xA r c).rules), ((xA r c).creds), 0) else (if 1000000000 < c.n then (true, 2, 3, ((xA r c).rules), ((xA r c).creds), 0) else (if 1000000000000 < (now + c.n) then (true, 2, 3, ((xA r c).rules), ((xA r c).creds), 0) else (false, 0, 3, ((xA r c).rules), ((xA r c).creds), (now + c.n)))))) else (if c.verb = 6 then (if ((Fg ((xA r c).creds) c.key now c.n c.m).2.2) ≠ 0 then (true, ((Fg ((xA r c).creds) c.key now c.n c.m).2.2), ((xA r c).state), ((xA r c).rules), ((Fg ((xA r c).creds) c.key now c.n c.m).1), ((xA r c).deadline)) else (false, 0, ((xA r c).state), ((xA r c).rules), ((Fg ((xA r c).creds) c.key now c.n c.m).1), ((xA r c).deadline))) else (if c.verb = 7 then (if 0 ≤ c.at_ then (if ((De ((xA r c).rules) c.at_ c.rule).2) ≠ 0 then (true, ((De ((xA r c).rules) c.at_ c.rule).2), ((xA r c).state), ((De ((xA r c).rules) c.at_ c.rule).1), ((xA r c).creds), ((xA r c).deadline)) else (false, 0, ((xA r c).state), ((De ((xA r c).rules) c.at_ c.rule).1), ((xA r c).creds), ((xA r c).deadline))) else (if ((Dk ((xA r c).rules) (IntKind.wrap .i64 (0 - (c.at_ + 1)))).2) ≠ 0 then (true, ((Dk ((xA r c).rules) (IntKind.wrap .i64 (0 - (c.at_ + 1)))).2), ((xA r c).state), ((Dk ((xA r c).rules) (IntKind.wrap .i64 (0 - (c.at_ + 1)))).1), ((xA r c).creds), ((xA r c).deadline)) else (false, 0, ((xA r c).state), ((Dk ((xA r c).rules) (IntKind.wrap .i64 (0 - (c.at_ + 1)))).1), ((xA r c).creds), ((xA r c).deadline)))) else (if c.verb = 5 then (false, 0, ((xA r c).state), ((xA r c).rules), ((xA r c).creds), ((xA r c).deadline)) else (if c.verb = 8 then (false, 0, ((xA r c).state), ((xA r c).rules), ((xA r c).creds), ((xA r c).deadline)) else (if c.verb = 10 then (false, 0, ((xA r c).state), ((xA r c).rules), ((xA r c).creds), ((xA r c).deadline)) else default)))))))) (fun err_21b err_21 x_22 x_23 x_24 x_25 => (if err_21b = true then (true, err_21, 0, 0, ([] : Ap), 0, 0, [], [], 0, r.slots.gens, r.slots.used, r.slots.free, r.l) else (if c.verb = 8 then (false, 0, ((xA r c).handle.slot), ((xA r c).handle.gen), ((xA r c).name), ((xA r c).state), ((xA r c).version), ((xA r c).rules), ((xA r c).creds), ((xA r c).deadline), r.slots.gens, r.slots.used, r.slots.free, r.l) else (if c.verb = 10 then (false, 0, ((xA r c).handle.slot), ((xA r c).handle.gen), ((xA r c).name), ((xA r c).state), ((xA r c).version), ((xA r c).rules), ((xA r c).creds), ((xA r c).deadline), r.slots.gens, r.slots.used, r.slots.free, r.l) else (if c.verb = 5 then (false, 0, ((xA r c).handle.slot), ((xA r c).handle.gen), ((xA r c).name), x_22, (((xA r c).version) + 1), x_23, x_24, x_25, ((Ft r.slots ((xA r c).handle)).1.gens), ((Ft r.slots ((xA r c).handle)).1.used), ((Ft r.slots ((xA r c).handle)).1.free), (delL r.l ((Am (xR r) c.name).1).toNat (((Am (xR r) c.name).1) + 1).toNat)) else (false, 0, ((xA r c).handle.slot), ((xA r c).handle.gen), ((xA r c).name), x_22, (((xA r c).version) + 1), x_23, x_24, x_25, r.slots.gens, r.slots.used, r.slots.free, (Fp r.l (Aa.mk ((xA r c).handle) ((xA r c).name) x_22 (((xA r c).version) + 1) x_23 x_24 x_25))))))))))))))) (fun err_1b err_1 x_2 x_3 x_4 x_5 x_6 x_7 x_8 x_9 x_10 x_11 x_12 x_13 => (if err_1b = true then (Ia () ((xR r), (Cm.mk err_1 (r.seq + 1) (Ar.mk 0 0) 0 0))) else (Ia () ((Ac.mk (Ax.mk x_10 x_11 x_12) x_13 (r.seq + 1)), (Cm.mk 0 (r.seq + 1) (Ar.mk x_2 x_3) x_6 x_5)))))))))))
end Go.Proofs.YtopjaeoklkpcpaaGreatDoor.Jd

namespace Go.Proofs.YtopjaeoklkpcpaaGreatDoor.Jd
open Go.Proofs.Tryz
set_option linter.unusedVariables false
set_option linter.unusedSimpArgs false
theorem I1 (r : Bf) : mS r = Ke r := by
  unfold mS Ke
  rw [← uU, pO]
end Go.Proofs.YtopjaeoklkpcpaaGreatDoor.Jd

namespace Go.Proofs.YtopjaeoklkpcpaaGreatDoor.Jd
open Go.Proofs.Tryz
set_option linter.unusedVariables false
set_option linter.unusedSimpArgs false
theorem Mn {α : Type} [Inhabited α] {xs : List α} {k : Nat} (h : k < xs.length) : xs.getD k default ∈ xs := by
  rw [List.getD_eq_getElem?_getD, List.getElem?_eq_getElem h]; exact List.getElem_mem h
theorem Zz {α : Type} [Inhabited α] {xs : List α} {x : α} (h : x ∈ xs) : ∃ k, k < xs.length ∧ xs.getD k default = x := by
  obtain ⟨k, hk, rfl⟩ := List.getElem_of_mem h
  exact ⟨k, hk, by rw [List.getD_eq_getElem?_getD, List.getElem?_eq_getElem hk]; rfl⟩
theorem Th (l : List Bf) : ∀ n i, l.length < i + n → i ≤ l.length → (Ht l n i = .ok l.length ∧ ∀ k, i ≤ k → k < l.length → Ke (l.getD k default) = true) ∨ (Ht l n i = .error false ∧ ∃ k, k < l.length ∧ Ke (l.getD k default) = false)
  | 0, i, h1, h2 => by omega
  | n + 1, i, h1, h2 => by
    unfold Ht
    by_cases hi : i < l.length
    · rw [if_pos z2]
      cases hr : Ke (l.getD i default) with
      | false => exact .inr ⟨by simp, i, hi, hr⟩
      | true =>
        rw [if_neg Hb]
        rcases Th l n (i + 1) z2 z2 with ⟨h3, h4⟩ | ⟨h3, k, h4⟩
        · refine .inl ⟨h3, fun k h5 h6 => ?_⟩
          by_cases e : k = i
          · subst e; exact hr
          · exact h4 k z2 h6
        · exact .inr ⟨h3, k, h4⟩
    · rw [if_neg z2]
      exact .inl ⟨by congr 1; omega, fun k h5 h6 => by omega⟩
theorem kW {l : List Bf} : Ik l = true ↔ l.length ≤ 16 ∧ ∀ r ∈ l, Ke r = true := by
  unfold Ik
  by_cases hl : l.length ≤ 16
  · rw [if_pos z2]
    rcases Th l (l.length + 1) 0 z2 z2 with ⟨h3, h4⟩ | ⟨h3, k, h4, h5⟩
    · rw [h3]
      refine ⟨fun _ => ⟨hl, fun r hr => ?_⟩, fun _ => rfl⟩
      obtain ⟨k, hk, rfl⟩ := Zz hr
      exact h4 k (Nat.zero_le _) hk
    · rw [h3]
      refine ⟨fun h => (by cases h), fun h => ?_⟩
      have := h.2 _ (Mn h4)
      rw [h5] at this; cases this
  · rw [if_neg z2]
    exact ⟨fun h => (by cases h), fun h => absurd h.1 hl⟩
theorem Vq (l : List Bf) : ∀ n i, l.length < i + n → i ≤ l.length → (Iw l n i = .ok l.length ∧ ∀ k, i ≤ k → k < l.length → Ke (l.getD k default) = true) ∨ (Iw l n i = .error false ∧ ∃ k, k < l.length ∧ Ke (l.getD k default) = false)
  | 0, i, h1, h2 => by omega
  | n + 1, i, h1, h2 => by
    unfold Iw
    rw [I1]
    by_cases hi : i < l.length
    · rw [if_pos z2]
      cases hr : Ke (l.getD i default) with
      | false => exact .inr ⟨by simp, i, hi, hr⟩
      | true =>
        rw [if_neg Hb]
        rcases Vq l n (i + 1) z2 z2 with ⟨h3, h4⟩ | ⟨h3, k, h4⟩
        · refine .inl ⟨h3, fun k h5 h6 => ?_⟩
          by_cases e : k = i
          · subst e; exact hr
          · exact h4 k z2 h6
        · exact .inr ⟨h3, k, h4⟩
    · rw [if_neg z2]
      exact .inl ⟨by congr 1; omega, fun k h5 h6 => by omega⟩
theorem nW {l : List Bf} : Qq l = true ↔ l.length ≤ 16 ∧ ∀ r ∈ l, Ke r = true := by
  unfold Qq
  rcases Vq l (l.length + 1) 0 z2 z2 with ⟨h3, h4⟩ | ⟨h3, k, h4, h5⟩
  · rw [h3]
    show decide _ = true ↔ _
    rw [decide_eq_true_eq]
    refine ⟨fun h => ⟨by omega, fun r hr => ?_⟩, fun h => by omega⟩
    obtain ⟨k, hk, rfl⟩ := Zz hr
    exact h4 k (Nat.zero_le _) hk
  · rw [h3]
    refine ⟨fun h => (by cases h), fun h => ?_⟩
    have := h.2 _ (Mn h4)
    rw [h5] at this; cases this
theorem qT (l : List Bf) : Qq l = Ik l := by rw [Bool.eq_iff_iff, nW, kW]
end Go.Proofs.YtopjaeoklkpcpaaGreatDoor.Jd

namespace Go.Proofs.YtopjaeoklkpcpaaGreatDoor.Jd
open Go.Proofs.Tryz
set_option linter.unusedVariables false
set_option linter.unusedSimpArgs false
theorem Nm (r : Ac) (now : Int) (hr : Bk r.l) : ∀ n i l q, Bk l → Bk (Fr r now n i l q).2.1
  | 0, i, l, q, h => h
  | n + 1, i, l, q, h => by
    unfold Fr
    repeat' split
    all_goals first
      | exact Nm r now hr n (i + 1) _ _ h
      | exact Nm r now hr n (i + 1) _ _ (h.put (hr.at i))
      | exact h
theorem nX {r : Ac} (now : Int) (h : Bk r.l) : Bk (Gp r now).l := by
  unfold Gp
  split
  · exact h
  · have := Nm r now h (r.l.length + 1) 0 r.l r.seq h
    generalize Fr r now (r.l.length + 1) 0 r.l r.seq = x at this
    obtain ⟨x1, x2, x3⟩ := x
    exact this
end Go.Proofs.YtopjaeoklkpcpaaGreatDoor.Jd

namespace Go.Proofs.YtopjaeoklkpcpaaGreatDoor.Jd
open Go.Proofs.Tryz
set_option linter.unusedVariables false
set_option linter.unusedSimpArgs false
def rt (r : Ac) : Int := if Ga r = true then 1 else 0
theorem AJ6 {r : Ac} : rt r = 1 ↔ Ga r = true := by
  unfold rt
  split
  · simp_all
  · simp_all
theorem wK (r : Ac) (name : Ap) : rt r = 1 → 0 ≤ (Ee r name).1.version ∧ (Ee r name).1.version ≤ 1000000000000 := fun h => by
  have hr := AJ6.1 h
  unfold Ee
  split
  · simp
  · rename_i hp
    have hp2 : (Am r name).2 = true := by simpa using hp
    have h1 := Yp hp2
    have h2 := Nl hr (i := (Am r name).1.toNat) z2
    have h3 := Tc hr
    simp only
    omega
end Go.Proofs.YtopjaeoklkpcpaaGreatDoor.Jd

namespace Go.Proofs.YtopjaeoklkpcpaaGreatDoor.Jd
open Go.Proofs.Tryz
set_option linter.unusedVariables false
set_option linter.unusedSimpArgs false
theorem nY (s : Ap) : ∀ n i, Jh s n i = Kn s n i
  | 0, i => rfl
  | n + 1, i => by
    unfold Jh Kn
    by_cases hi : i < s.length
    · rw [if_pos hi, if_pos (show ((i : Nat) : Int) < ((s.length : Nat) : Int) by omega)]
      by_cases hb : (s.getD i default).toNat < 128
      · rw [AH5 hi hb, nY s n (i + 1)]
      · have h1 := AH6 hi hb
        rw [if_neg z2, if_pos z2, if_neg z2, if_pos z2]
    · rw [if_neg hi, if_neg z2]
theorem qU (s : Ap) : Yc s = dW s := by
  unfold Yc dW cA Yb
  simp only [nY]
theorem wL (s : Ap) : eR s = Hk s := by
  unfold eR Hk
  rw [qU]
  by_cases h : s = []
  · subst h; simp
  · have : 1 ≤ s.length := by
      cases s with
      | nil => exact absurd rfl h
      | cons a b => simp
    rw [if_pos z2]
    simp [h]
theorem Yt {t : Aa} {seq : Int} : Nj t seq = true ↔ Qf seq t := by
  unfold Nj
  rw [wL, qT, pP]
  constructor
  · intro h
    repeat' split at h
    all_goals first | (cases h; done) | skip
    all_goals refine ⟨by simp_all, by omega, by omega, by omega, ?_, by assumption, h⟩
    all_goals omega
  · rintro ⟨h1, h2, h3, h4, h5, h6, h7⟩
    rw [h1, h6, h7, if_neg Hb, if_neg z2, if_neg z2, if_neg z2, if_neg z2, if_neg z2, if_neg z2]
    split
    · rw [if_neg z2, if_pos rfl]
    · rw [if_pos rfl]
end Go.Proofs.YtopjaeoklkpcpaaGreatDoor.Jd

namespace Go.Proofs.YtopjaeoklkpcpaaGreatDoor.Jd
open Go.Proofs.Tryz
set_option linter.unusedVariables false
set_option linter.unusedSimpArgs false
theorem Ti (s : Ax) : ∀ n i, s.gens.length < i + n → i ≤ s.gens.length → (∃ j, Fc s n i = .ok j ∧ ∀ k, i ≤ k → k < s.gens.length → 0 ≤ s.gens.getD k default ∧ s.gens.getD k default ≤ 1000000000) ∨ (Fc s n i = .error false ∧ ∃ k, i ≤ k ∧ k < s.gens.length ∧ ¬ (0 ≤ s.gens.getD k default ∧ s.gens.getD k default ≤ 1000000000))
  | 0, i, h1, h2 => by omega
  | n + 1, i, h1, h2 => by
    unfold Fc
    have h0 : (0 : Int) ≤ ((i : Nat) : Int) := by omega
    simp only [h0, not_true_eq_false, not_false_eq_true, if_true]
    by_cases hi : i < s.gens.length
    · rw [if_pos z2]
      by_cases a : s.gens.getD i default < 0
      · rw [if_pos a]; exact .inr ⟨rfl, i, Nat.le_refl _, hi, by omega⟩
      rw [if_neg a]
      by_cases b : 1000000000 < s.gens.getD i default
      · rw [if_pos b]; exact .inr ⟨rfl, i, Nat.le_refl _, hi, by omega⟩
      rw [if_neg b]
      rcases Ti s n (i + 1) z2 z2 with ⟨j, h3, h4⟩ | ⟨h3, k, h4, h5⟩
      · refine .inl ⟨j, h3, fun k h5 h6 => ?_⟩
        by_cases e : k = i
        · subst e; omega
        · exact h4 k z2 h6
      · exact .inr ⟨h3, k, by omega, h5⟩
    · rw [if_neg z2]; exact .inl ⟨i, rfl, fun k h3 h4 => by omega⟩
theorem Nn (s : Ax) (a b : Nat) (l : List Int) : ∀ n i x, s.used.length < i + n → i ≤ s.used.length → (Gn s a b l n i x).2 = x - (((s.used.drop i).count true : Nat) : Int)
  | 0, i, x, h1, h2 => by omega
  | n + 1, i, x, h1, h2 => by
    unfold Gn
    by_cases hi : i < s.used.length
    · rw [if_pos z2, Fe hi]
      by_cases hu : s.used.getD i default = true
      · rw [if_pos hu, Nn s a b l n (i + 1) _ z2 z2, hu, List.count_cons_self]; omega
      · have hf : s.used.getD i default = false := by simpa using hu
        rw [if_neg hu, Nn s a b l n (i + 1) _ z2 z2, hf, List.count_cons_of_ne Gi]
    · rw [if_neg z2, List.drop_eq_nil_of_le z2]; simp
def Wu (s : Ax) (x : Int) : Prop := 0 ≤ x ∧ x < ((s.used.length : Nat) : Int) ∧ s.used.getD x.toNat default = false
theorem Tj (s : Ax) (a : Nat) : ∀ n i acc, s.free.length < i + n → i ≤ s.free.length → (∃ j, Ex s a n i acc = .ok (j, acc ++ s.free.drop i) ∧ (∀ x ∈ s.free.drop i, Wu s x ∧ x ∉ acc) ∧ (s.free.drop i).Nodup) ∨ (Ex s a n i acc = .error false ∧ ¬ ((∀ x ∈ s.free.drop i, Wu s x ∧ x ∉ acc) ∧ (s.free.drop i).Nodup))
  | 0, i, acc, h1, h2 => by omega
  | n + 1, i, acc, h1, h2 => by
    unfold Ex
    by_cases hi : i < s.free.length
    · rw [if_pos z2, Fe hi]
      generalize s.free.getD i default = x
      have bad : ¬ (Wu s x ∧ x ∉ acc) → ¬ ((∀ y ∈ x :: s.free.drop (i + 1), Wu s y ∧ y ∉ acc) ∧ (x :: s.free.drop (i + 1)).Nodup) := fun h h2 => h (h2.1 x List.mem_cons_self)
      by_cases c1 : x < 0
      · rw [if_pos c1]; exact .inr ⟨rfl, bad fun h => by have := h.1.1; omega⟩
      rw [if_neg c1]
      by_cases c2 : ((s.used.length : Nat) : Int) ≤ x
      · rw [if_pos c2]; exact .inr ⟨rfl, bad fun h => by have := h.1.2.1; omega⟩
      rw [if_neg c2]
      by_cases c3 : s.used.getD x.toNat default = true
      · rw [if_pos c3]; exact .inr ⟨rfl, bad fun h => by have := h.1.2.2; rw [c3] at this; cases this⟩
      rw [if_neg c3]
      by_cases c4 : x ∈ acc
      · rw [if_pos c4]; exact .inr ⟨rfl, bad fun h => h.2 c4⟩
      rw [if_neg c4]
      have hx : Wu s x := ⟨by omega, by omega, by simpa using c3⟩
      rcases Tj s a n (i + 1) (acc ++ [x]) z2 z2 with ⟨j, h3, h4, h5⟩ | ⟨h3, h4⟩
      · refine .inl ⟨j, by rw [h3]; simp, fun y hy => ?_, ?_⟩
        · rcases List.mem_cons.1 hy with rfl | hy
          · exact ⟨hx, c4⟩
          · exact ⟨(h4 y hy).1, fun h => (h4 y hy).2 (List.mem_append_left _ h)⟩
        · exact List.nodup_cons.2 ⟨fun h => (h4 x h).2 Hb, h5⟩
      · refine .inr ⟨h3, fun ⟨g1, g2⟩ => h4 ⟨fun y hy => ⟨(g1 y (List.mem_cons_of_mem _ hy)).1, fun h => ?_⟩, (List.nodup_cons.1 g2).2⟩⟩
        rcases List.mem_append.1 h with h | h
        · exact (g1 y (List.mem_cons_of_mem _ hy)).2 h
        · have e : y = x := by simpa using h
          exact (List.nodup_cons.1 g2).1 (e ▸ hy)
    · rw [if_neg z2, List.drop_eq_nil_of_le z2]
      exact .inl ⟨i, by simp, by simp, List.nodup_nil⟩
theorem qV {s : Ax} : Ep s = true ↔ (1 ≤ s.gens.length ∧ s.gens.length ≤ 64 ∧ s.used.length = s.gens.length) ∧ (∀ x ∈ s.gens, 0 ≤ x ∧ x ≤ 1000000000) ∧ SlT.freeD s.used s.free ∧ (s.gens.length : Int) - (SlT.cntU s.used : Int) = (s.free.length : Int) := by
  unfold Ep
  by_cases h1 : 1 ≤ s.gens.length
  rotate_left
  · rw [if_neg z2]; exact ⟨nofun, fun h => absurd h.1.1 h1⟩
  rw [if_pos z2]
  by_cases h2 : s.gens.length ≤ 64
  rotate_left
  · rw [if_neg z2]; exact ⟨nofun, fun h => absurd h.1.2.1 h2⟩
  rw [if_pos z2]
  by_cases h3 : s.used.length = s.gens.length
  rotate_left
  · rw [if_pos z2]; exact ⟨nofun, fun h => absurd h.1.2.2 h3⟩
  rw [if_neg z2]
  rcases Ti s (s.gens.length + 1) 0 z2 z2 with ⟨j, e, hg⟩ | ⟨e, k, _, hk, hb⟩
  rotate_left
  · rw [e]
    simp only [Bn]
    refine ⟨nofun, fun h => absurd (h.2.1 _ ?_) hb⟩
    rw [List.getD_eq_getElem?_getD, List.getElem?_eq_getElem hk]; exact List.getElem_mem hk
  rw [e]
  simp only [Bn]
  have hgens : ∀ x ∈ s.gens, 0 ≤ x ∧ x ≤ 1000000000 := fun x hx => by
    obtain ⟨k, hk, rfl⟩ := List.getElem_of_mem hx
    have := hg k z2 hk
    simpa [List.getD, hk] using this
  rcases Tj s j (s.free.length + 1) 0 [] z2 z2 with ⟨j2, e2, hf, hn⟩ | ⟨e2, hf⟩
  rotate_left
  · rw [e2]
    simp only [Gz]
    refine ⟨nofun, fun h => absurd ?_ hf⟩
    simpa [SlT.freeD, Wu] using h.2.2.1
  rw [e2]
  simp only [Gz]
  have h6 := Nn s j j2 ([] ++ s.free.drop 0) (s.used.length + 1) 0 ((s.gens.length : Nat) : Int) z2 z2
  generalize Gn s j j2 ([] ++ s.free.drop 0) (s.used.length + 1) 0 ((s.gens.length : Nat) : Int) = y at h6
  obtain ⟨y1, y2⟩ := y
  simp only [List.drop_zero, List.nil_append] at h6
  simp only [It, List.drop_zero, List.nil_append]
  rw [SlT.cntU_eq]
  have hfr : SlT.freeD s.used s.free := by simpa [SlT.freeD, Wu] using (⟨hf, hn⟩ : _ ∧ _)
  by_cases hc : y2 = ((s.free.length : Nat) : Int)
  · rw [if_neg (by simp [hc])]
    exact ⟨fun _ => ⟨⟨h1, h2, h3⟩, hgens, hfr, by omega⟩, fun _ => rfl⟩
  · rw [if_pos hc]
    exact ⟨nofun, fun h => absurd z2 hc⟩
theorem Jo (s : Ax) : Ep s = SlT.rightB s.gens s.used s.free := by rw [Bool.eq_iff_iff, qV, SlT.rightB_iff]
theorem aA (s : Ax) : Ep s = Iq s := by rw [Jo, qO]
theorem I2 (s : Ax) : Ch s = Zv s := by
  unfold Ch Zv
  rw [aA]
theorem Wv (s : Ax) (hl : s.used.length = s.gens.length) : ∀ n i out, s.used.length < i + n → i ≤ s.used.length → ((Hj s n i out).2).map hT = out.map hT ++ (SlT.usedIx i (s.used.drop i)).map fun j : Nat => ((j : Int), s.gens.getD j default)
  | 0, i, out, h1, h2 => by omega
  | n + 1, i, out, h1, h2 => by
    unfold Hj
    by_cases hi : i < s.used.length
    · rw [if_pos z2, Fe hi]
      cases hb : s.used.getD i default
      · rw [if_neg Hb, Wv s hl n (i + 1) _ z2 z2]
        simp [SlT.usedIx]
      · rw [if_pos rfl, Wv s hl n (i + 1) _ z2 z2]
        simp [SlT.usedIx, hT]
    · rw [if_neg z2, List.drop_eq_nil_of_le z2]
      simp [SlT.usedIx]
theorem Oq (s : Ax) : (Dx s).map hT = SlT.allD s.gens s.used s.free := by
  unfold Dx SlT.allD
  rw [Jo]
  cases h : SlT.rightB s.gens s.used s.free with
  | false => simp
  | true =>
    have hl := (SlT.rightB_iff.1 h).1.2.2
    have e := Wv s hl (s.used.length + 1) 0 [] z2 z2
    simp only [Bool.not_true, Bool.false_eq_true, if_false, if_true, SlT.hnd]
    generalize Hj s (s.used.length + 1) 0 [] = y at e
    obtain ⟨y1, y2⟩ := y
    simpa [It] using e
theorem fB {a b : List Ar} (h : a.map hT = b.map hT) : a = b := by
  induction a generalizing b with
  | nil => cases b with
    | nil => rfl
    | cons x y => simp at h
  | cons x y ih => cases b with
    | nil => simp at h
    | cons z w =>
      simp only [List.map_cons, List.cons.injEq] at h
      rw [Zy h.1, ih h.2]
theorem X5 (s : Ax) : Dx s = Il s := fB (by rw [Oq, H5])
theorem Vr (s : Ax) (h : Ar) : ∀ n i, (Dx s).length < i + n → i ≤ (Dx s).length → (Bn (Hd s h n i) (fun r => r) (fun _ => false) = true ↔ h ∈ (Dx s).drop i)
  | 0, i, h1, h2 => by omega
  | n + 1, i, h1, h2 => by
    unfold Hd
    by_cases hi : i < (Dx s).length
    · rw [if_pos z2, Fe hi]
      generalize (Dx s).getD i default = x
      by_cases hx : x.slot = h.slot ∧ x.gen = h.gen
      · have e : x = h := Zy (by simp [hT, hx.1, hx.2])
        rw [if_pos hx, e]; simp [Bn]
      · rw [if_neg hx, Vr s h n (i + 1) z2 z2, List.mem_cons]
        exact ⟨.inr, fun h3 => h3.resolve_left fun e => hx (by rw [e]; exact ⟨rfl, rfl⟩)⟩
    · rw [if_neg z2, List.drop_eq_nil_of_le z2]; simp [Bn]
theorem qW (s : Ax) (h : Ar) : Ss s h = true ↔ h ∈ Dx s := Vr s h _ 0 z2 z2
theorem Np {h : Ar} {l : List Ar} : hT h ∈ l.map hT ↔ h ∈ l := by
  constructor
  · intro e
    obtain ⟨x, hx, e2⟩ := List.mem_map.1 e
    exact Zy e2 ▸ hx
  · exact fun e => List.mem_map.2 ⟨h, e, rfl⟩
theorem wM (s : Ax) (h : Ar) : Ss s h = cF s h := by
  rw [Bool.eq_iff_iff, qW, aR, SlT.rValid_eq, ← Np, Oq, decide_eq_true_eq]
  exact Iff.rfl
theorem I3 (s : Ax) (h : Ar) : Ft s h = eQ s h := by
  unfold Ft eQ
  rw [aA, wM]
theorem fC (n : Int) (x : List Int) (y : List Bool) : ∀ (f i : Nat) (l : List Int), (n - (i : Int)).toNat < f → 0 ≤ n → (Qm n x y f i l).2 = l ++ ((List.range (n.toNat - i)).map fun j : Nat => n - 1 - ((i + j : Nat) : Int))
  | 0, i, l, h, h0 => by omega
  | f + 1, i, l, h, h0 => by
    unfold Qm
    by_cases hi : (i : Int) < n
    · rw [if_pos hi, fC n x y f (i + 1) _ z2 h0]
      rw [show n.toNat - i = (n.toNat - (i + 1)) + 1 by omega, List.range_succ_eq_map]
      simp only [List.map_cons, List.map_map, List.append_assoc, List.cons_append, List.nil_append, Nat.add_zero]
      congr 2
      refine List.map_congr_left fun j _ => ?_
      simp only [Function.comp]
      omega
    · rw [if_neg hi, show n.toNat - i = 0 by omega]; simp
theorem X6 (n : Int) : Wi n = Lo n := by
  have h0 := iT n
  rw [SlT.rNew_eq] at h0
  have key : ∀ a b : Ax × Int, (sT a.1, a.2) = (sT b.1, b.2) → a = b := fun a b h => by
    have h1 := congrArg Prod.fst h
    have h2 := congrArg Prod.snd h
    exact Prod.ext (kU h1) h2
  refine key _ _ (Eq.trans ?_ h0.symm)
  unfold Wi
  by_cases h1 : n < 1
  · rw [if_pos h1, SlT.new_bad z2]; rfl
  rw [if_neg h1]
  by_cases h2 : 64 < n
  · rw [if_pos h2, SlT.new_bad z2]; rfl
  rw [if_neg h2]
  have e := fC n (List.replicate n.toNat default) (List.replicate n.toNat default) ((n - ((0 : Nat) : Int)).toNat + 1) 0 [] z2 z2
  obtain ⟨m, rfl⟩ := Int.eq_ofNat_of_zero_le (show 0 ≤ n by omega)
  rw [SlT.new_good z2 z2]
  simp only [It]
  generalize Qm (m : Int) (List.replicate (m : Int).toNat default) (List.replicate (m : Int).toNat default) (((m : Int) - ((0 : Nat) : Int)).toNat + 1) 0 [] = y at e ⊢
  obtain ⟨y1, y2⟩ := y
  simp only at e
  subst e
  simp only [sT, Int.toNat_natCast, SlT.downF, List.nil_append, Nat.sub_zero, Nat.zero_add]
  rfl
end Go.Proofs.YtopjaeoklkpcpaaGreatDoor.Jd

