/- Part of the proofs of this seat: walks and plain facts. No condition. -/
import Derived.Test.YtdnjanhdnibkfaaGreatDoorF0
import Derived.Test.YtdnjanhdnibkfaaGreatDoorProg
import Derived.Test.YtdnjanhdnibkfaaGreatDoorRows
import Derived.ChangeMaps5
import Derived.Test.YtdnjanhdnibkfaaGreatDoorF4
import Derived.Test.YtdnjanhdnibkfaaGreatDoorF2
import Derived.Test.YtdnjanhdnibkfaaGreatDoorF1
import Derived.Test.YtdnjanhdnibkfaaGreatDoorF3
namespace Go.Proofs.YtdnjanhdnibkfaaGreatDoor.Jd
open Go.Proofs.Tryz
open Go.Proofs
open Go.RowKit (Below)
set_option maxRecDepth 100000
set_option maxHeartbeats 8000000
set_option linter.unusedVariables false
set_option linter.unusedSimpArgs false
def zT (x : Frame) : List Value := [vi x.kind, vi x.stream, Value.string (bs x.data)]
theorem Az : Dm zT 3 := ⟨by omega, fun _ => rfl, fun _ => rfl⟩
theorem Q3 : Ba Tryz.prog 43 1 1 := fun r k w => by simp [Instr.fieldAt, Instr.sureAddr, fieldPlace, Ao]
theorem Hn : Ba Tryz.prog 96 0 0 := fun r k w => by simp [Instr.fieldAt, Instr.sureAddr, fieldPlace, Ao]
theorem Zk : Ba Tryz.prog 96 1 7 := fun r k w => by simp [Instr.fieldAt, Instr.sureAddr, fieldPlace, Ao]
theorem qB : Ba Tryz.prog 96 2 10 := fun r k w => by simp [Instr.fieldAt, Instr.sureAddr, fieldPlace, Ao]
theorem Q4 : Ba Tryz.prog 96 3 15 := fun r k w => by simp [Instr.fieldAt, Instr.sureAddr, fieldPlace, Ao]
theorem qC : Ba Tryz.prog 96 4 16 := fun r k w => by simp [Instr.fieldAt, Instr.sureAddr, fieldPlace, Ao]
theorem qD : Ba Tryz.prog 96 5 17 := fun r k w => by simp [Instr.fieldAt, Instr.sureAddr, fieldPlace, Ao]
theorem AP8 : Ej Tryz.prog 43 [(0, 1), (1, 1), (2, 1), (3, 1), (4, 2)] := ⟨_, fun w => runUnderlying43 w, fun w => by simp⟩
theorem AP9 : Ej Tryz.prog 96 [(0, 7), (7, 3), (10, 5), (15, 1), (16, 1), (17, 6)] := ⟨_, fun w => runUnderlying96 w, fun w => by simp⟩
theorem Hq : Ty Tryz.prog 28 3 32 (Value.agg [(vi 0), (vi 0), (vt ([] : Ai))].toArray) := ⟨⟨Tryz.t28, by kernel_rfl, rfl, rfl, rfl⟩, rfl⟩
theorem Si (w : World) {s_opn_a : Option Addr} {s_opn_c : Nat} {r_Sg_a : Option Addr} {r_Sg_c : Nat} {r_Su_a : Option Addr} {r_Su_c : Nat} {r_Sf_a : Option Addr} {r_Sf_c : Nat} {r_l_a : Option Addr} {r_l_c : Nat} {r_l_t : List TA} {ea0 : Addr} {ea1 : Addr} {ea2 : Addr} {ea3 : Addr} {ea4 : Addr} {ea5 : Addr} {ea6 : Addr} {ea7 : Addr} {ea8 : Addr} {ea9 : Addr} {ea10 : Addr} {ea11 : Addr} {ea12 : Addr} {ea13 : Addr} {ea14 : Addr} {ea15 : Addr} {s : Session} {f : Frame} {r : Bs} {now : Int} (h_s_opn : Sl w eI 1 s_opn_a s.opn) (n_s_opn : s.opn.length ≤ 1000) (h_r_Sg : Sl w eI 1 r_Sg_a r.slots.gens) (n_r_Sg : r.slots.gens.length ≤ 1000) (h_r_Su : Sl w eB 1 r_Su_a r.slots.used) (n_r_Su : r.slots.used.length ≤ 1000) (h_r_Sf : Sl w eI 1 r_Sf_a r.slots.free) (n_r_Sf : r.slots.free.length ≤ 1000) (h_r_l : cG w Fo 8 DT r_l_a r.l r_l_t) (n_r_l : r.l.length ≤ 1000) (k_r_l : r.l.length ≤ r_l_c) (hG : Gl w) (hE : Er w ea0 ea1 ea2 ea3 ea4 ea5 ea6 ea7 ea8 ea9 ea10 ea11 ea12 ea13 ea14 ea15) (hsm : Gq r.l) : Calls Tryz.prog 14 (List.toArray [(Value.agg [(vi s.phase), (vt s.name), (vi s.handle.slot), (vi s.handle.gen), (vi s.a), (vi s.b), (vs s_opn_a s.opn.length s_opn_c)].toArray), (Value.agg [(vi f.kind), (vi f.stream), (vt f.data)].toArray), (Value.agg [(vs r_Sg_a r.slots.gens.length r_Sg_c), (vs r_Su_a r.slots.used.length r_Su_c), (vs r_Sf_a r.slots.free.length r_Sf_c), (vs r_l_a r.l.length r_l_c), (vi r.seq)].toArray), (vi now)]) w fun e w2 => ∃ a1 : Option Addr, ∃ c1 : Nat, ∃ a2 : Option Addr, ∃ c2 : Nat, ∃ B : Am, e = .returned (Value.tuple [(Value.agg [(vi ((Bg s f r now).1.phase)), (vt ((Bg s f r now).1.name)), (vi ((Bg s f r now).1.handle.slot)), (vi ((Bg s f r now).1.handle.gen)), (vi ((Bg s f r now).1.a)), (vi ((Bg s f r now).1.b)), (vs a1 ((Bg s f r now).1.opn.length) c1)].toArray), (vs a2 ((Bg s f r now).2.1.length) c2), (Value.agg [(vi ((Bg s f r now).2.2.1.kind)), (vi ((Bg s f r now).2.2.1.stream)), (vt ((Bg s f r now).2.2.1.data)), (vi ((Bg s f r now).2.2.1.n)), (vi ((Bg s f r now).2.2.1.target.addr)), (vi ((Bg s f r now).2.2.1.target.port))].toArray), (vi ((Bg s f r now).2.2.2))].toArray) ∧ Dz w w2 B ∧ Hb B eI 1 a1 (Bg s f r now).1.opn ∧ Hb B zT 3 a2 (Bg s f r now).2.1 ∧ (Bg s f r now).1.opn.length ≤ 1000 ∧ (Bg s f r now).2.1.length ≤ 10 := by
 have hF := Is.refl (Bg s f r now)
 refine enter func14 ntmps14 (h := ?_)
 refine Z2 ?_
 refine Aj Ae z90 (k := fun r1 hr1 => ?_)
 refine Aj Ae Lb (k := fun r2 hr2 => ?_)
 refine Aj Ae oT (k := fun r3 hr3 => ?_)
 refine Aj Ae A4 (k := fun r4 hr4 => ?_)
 refine Hr ?_
 refine Aj Ae z80 (k := fun r5 hr5 => ?_)
 refine Z1 ?_
 refine qM ?_
 refine qS ?_
 refine Co (Aa call22) (fun w1 hw1 => Qb w1 (s := s) (h_s_opn := (Ch.of_base h_s_opn) w1 hw1) (n_s_opn := dI)) (k := ?_)
 refine rV ?_
 refine Dc rfl (fun hq1 => ?_) (fun hq1 => ?_)
 ·refine Bw ?_
  refine iM ?_
  refine jM ?_
  obtain ⟨Thgl2, fhgl2, hgl2⟩ := hE.v0
  refine mQ ?_
  refine iO ?_
  refine Sm ?_
  obtain ⟨Thgl3, fhgl3, hgl3⟩ := hE.v0
  refine jF ?_
  refine qR ?_
  refine Ub ?_
  refine iG ?_
  refine W0 ?_
  refine qN ?_
  refine Ac results14 (Bk.agg isAgg26 sizeOf26 rfl me rfl (Bk.tmp rfl (Bk.agg isAgg43 sizeOf43 rfl me rfl z1))) (fun w1 hw1 => ?_)
  exact ⟨none, 0, none, 0, [], (rq (hF.t hq1)), (hw1.fresh_out.sub Mt), (rn (hF.t hq1)), (rn (hF.t hq1)), (by rw [(hF.t hq1).eq]; first | exact lb | (rw [Ak z8]; omega)), (by rw [(hF.t hq1).eq]; first | exact lb | (rw [Ak z8]; omega))⟩
 have hfhq1 := Xb uF
 refine Z2 ?_
 refine Ad (Bq isAgg28 sizeOf28) (k := ?_)
 refine Co (Aa call30) (fun w1 hw1 => oO w1 (f := f)) (k := ?_)
 refine rV ?_
 refine Dc rfl (fun hq4 => ?_) (fun hq4 => ?_)
 ·refine Bw ?_
  refine iM ?_
  refine jM ?_
  obtain ⟨Thgl5, fhgl5, hgl5⟩ := hE.v1
  refine rX ?_
  refine iO ?_
  refine Sm ?_
  obtain ⟨Thgl6, fhgl6, hgl6⟩ := hE.v0
  refine jG ?_
  refine Co (args := [(Value.iface 400 (.pointer (some ea1))), (Value.iface 400 (.pointer (some ea0)))]) (Aa call81) (fun w1 hw1 => Hi w1 hE.n1_0 (hE.ext hw1.ext_out).b1 (hE.ext hw1.ext_out).b0) (k := ?_)
  refine Z1 ?_
  refine Qu ?_
  obtain ⟨Thgl7, fhgl7, hgl7⟩ := hE.v1
  refine mP ?_
  refine Co (args := [(Value.iface 400 (.pointer (some ea1))), (Value.iface 400 (.pointer (some ea1)))]) (Aa call81) (fun w1 hw1 => Hl w1) (k := ?_)
  refine Z1 ?_
  refine Ub ?_
  refine iG ?_
  refine W0 ?_
  refine qN ?_
  refine Ac results14 (Bk.agg isAgg26 sizeOf26 rfl me rfl (Bk.tmp rfl (Bk.agg isAgg43 sizeOf43 rfl me rfl z1))) (fun w1 hw1 => ?_)
  exact ⟨none, 0, none, 0, [], (rq ((hF.f hq1).t hq4)), (hw1.fresh_out.sub Mt), (rn ((hF.f hq1).t hq4)), (rn ((hF.f hq1).t hq4)), (by rw [((hF.f hq1).t hq4).eq]; first | exact lb | (rw [Ak z8]; omega)), (by rw [((hF.f hq1).t hq4).eq]; first | exact lb | (rw [Ak z8]; omega))⟩
 have hfhq4 := tP (by simpa using hq4)
 refine Br ?_
 refine A8 ?_
 refine qS ?_
 refine Ad (Bq isAgg28 sizeOf28) (k := ?_)
 refine vZ ?_
 refine Cg ?_
 refine Ad (Cf (cs := [_, _, _, _, _, _, _, _, _, _, _, _, _, _, _, _, _, _, _, _, _, _, _]) zeroValue96 AP9) (k := ?_)
 refine Aj Ae (Jf (l := [_, _, _, _, _, _, _, _, _, _, _, _, _, _, _, _, _, _, _, _, _, _, _])) (k := fun r6 hr6 => ?_)
 refine Jj ?_
 refine El _ (sk (sk (sk (sd (sk (sk sz)))))) ?_
 refine Sv ?_
 refine Zr ?_
 refine F2 ?_
 refine J4 ?_
 refine Uz (n := s.opn.length) (x0 := default) Ev underlying24 Au rfl ⟨by omega, by omega⟩ (k := fun ax1 Bx1 hox1 => ?_)
 refine Ew ?_
 refine Ys (n := s.opn.length) Ev underlying24 Au hox1 q0 (Ch.of_base h_s_opn) Hs rfl (kk := fun Bx2 hox2 => ?_)
 refine I5 ?_
 refine vT ?_
 refine uQ ?_
 refine Z2 ?_
 refine Ad (Al Lj) (k := ?_)
 refine Hk ?_
 refine cO ?_
 refine Bd rfl (fun hq8 => ?_) (fun hq8 => ?_)
 ·refine Bw ?_
  refine Lq ?_
  refine Zr ?_
  refine fM ?_
  refine jM ?_
  refine vF ?_
  refine Qr ?_
  refine Ac results14 (Bk.agg isAgg26 sizeOf26 rfl me rfl (Bk.tmp rfl (Bk.agg isAgg43 sizeOf43 rfl me rfl z1))) (fun w1 hw1 => ?_)
  exact ⟨ax1, s.opn.length, none, 0, Bx2, (rq (((hF.f hq1).f hq4).pos hq8)), (Aq (L := Bx2) (hw1.perm (List.Perm.refl _)) rfl.symm), (by rw [(((hF.f hq1).f hq4).pos hq8).eq]; exact (hox2.slb Au)), (rn (((hF.f hq1).f hq4).pos hq8)), (by rw [(((hF.f hq1).f hq4).pos hq8).eq]; first | exact lb | (rw [Ak z8]; omega)), (by rw [(((hF.f hq1).f hq4).pos hq8).eq]; first | exact lb | (rw [Ak z8]; omega))⟩
 refine cQ ?_
 refine Dw mixed 11 [(true, 0), (true, 1), (true, 3), (true, 4), (false, 2), (true, 5), (true, 6), (true, 7), (true, 8), (true, 9), (true, 10)] z6 ?_
 refine Ay (Al Lj) (k := ?_)
 refine Tj ?_
 refine Ay (Al Zi) (k := ?_)
 refine Tj ?_
 refine fW (args := [_]) (Aa call39) func39 ntmps39 ?_
 refine Pe _ (eqp nE) ?_
 refine Qj ?_
 refine Kt ?_
 refine Z2 ?_
 refine rU ?_
 refine Bd rfl (fun hq9 => ?_) (fun hq9 => ?_)
 ·refine Bw ?_
  refine Dn ?_
  refine Aj Ae Sx (k := fun r7 hr7 => ?_)
  refine Fs (ml := ([] : List (Int × Value))) 8 Bo runUnderlying100 runUnderlying3 (Hg.nil (enc := fun x : Int => vi x)) Hs q0 (k := fun em1 km1 hms1 => ?_)
  refine Fs (ml := ([(8, (Value.func (.func 82) [].toArray [].toArray))] : List (Int × Value))) 1 Bo runUnderlying100 runUnderlying3 hms1 Hs q0 (k := fun em2 km2 hms2 => ?_)
  refine Cg ?_
  refine qN ?_
  refine AB7 ?_
  by_cases hq10 : f.kind = 8
  ·refine Ay (Cy (l := ([(8, (Value.func (.func 82) [].toArray [].toArray)), (1, (Value.func (.func 83) [].toArray [].toArray))] : List (Int × Value))) (v := (Value.func (.func 82) [].toArray [].toArray)) f.kind Bo runUnderlying100 runUnderlying3 zeroValue98 hms2 (Bv hq10.symm)) (k := ?_)
   refine AA6 ?_
   refine Sv ?_
   refine rN ?_
   refine eY ?_
   refine Gf Ae cE (k := fun r8 hr8 => ?_)
   refine Cn ([(Frame.mk 8 f.stream f.data)] : List Frame) (List.nil_append _) Hq underlying39 Az Bi.nil (List.Perm.refl _) (Ch.lit (xs := ([(Frame.mk 8 f.stream f.data)] : List Frame)) Az) ⟨by omega, by omega⟩ (n := 0) (m := 1) (k := fun ax3 cx3 Bx3 hox3 => ?_)
   refine eX ?_
   refine E3 ?_
   refine Ef ?_
   refine Cx results82 Bk.nil ?_
   refine iX ?_
   refine Ac results14 (Bk.agg isAgg26 sizeOf26 rfl me rfl (Bk.tmp rfl (Bk.agg isAgg43 sizeOf43 rfl me rfl z1))) (fun w1 hw1 => ?_)
   exact ⟨ax1, s.opn.length, ax3, cx3, (Bx2 ++ Bx3), (rq (((((hF.f hq1).f hq4).neg hq8).pos hq9).pos hq10)), (Aq (L := (Bx2 ++ Bx3)) (hw1.perm ((qb (qb q0)).trans (qd (qb (qb (qb q0)))))) (nA rfl).symm), (by rw [(((((hF.f hq1).f hq4).neg hq8).pos hq9).pos hq10).eq]; exact (hox2.slb Au)), (by rw [(((((hF.f hq1).f hq4).neg hq8).pos hq9).pos hq10).eq]; exact (hox3.slb Az)), (by rw [(((((hF.f hq1).f hq4).neg hq8).pos hq9).pos hq10).eq]; first | exact lb | (rw [Ak z8]; omega)), (by rw [(((((hF.f hq1).f hq4).neg hq8).pos hq9).pos hq10).eq]; first | exact lb | (rw [Ak z8]; omega))⟩
  by_cases hq11 : f.kind = 1
  rotate_left
  ·refine Ay (Pm (l := ([(8, (Value.func (.func 82) [].toArray [].toArray)), (1, (Value.func (.func 83) [].toArray [].toArray))] : List (Int × Value))) f.kind Bo runUnderlying100 runUnderlying3 zeroValue98 hms2 ((Af (fun e => hq10 e.symm)).trans ((Af (fun e => hq11 e.symm)).trans Jv))) (k := ?_)
   refine G4 ?_
   refine Sn ?_
   refine Dn ?_
   refine Ew ?_
   refine fH ?_
   refine fI ?_
   refine Ac results14 (Bk.agg isAgg26 sizeOf26 rfl me rfl (Bk.tmp rfl (Bk.agg isAgg43 sizeOf43 rfl me rfl z1))) (fun w1 hw1 => ?_)
   exact ⟨none, 0, none, 0, [], (rq ((((((hF.f hq1).f hq4).neg hq8).pos hq9).neg hq10).neg hq11)), (hw1.fresh_out.sub Mt), (rn ((((((hF.f hq1).f hq4).neg hq8).pos hq9).neg hq10).neg hq11)), (rn ((((((hF.f hq1).f hq4).neg hq8).pos hq9).neg hq10).neg hq11)), (by rw [((((((hF.f hq1).f hq4).neg hq8).pos hq9).neg hq10).neg hq11).eq]; first | exact lb | (rw [Ak z8]; omega)), (by rw [((((((hF.f hq1).f hq4).neg hq8).pos hq9).neg hq10).neg hq11).eq]; first | exact lb | (rw [Ak z8]; omega))⟩
  refine Ay (Cy (l := ([(8, (Value.func (.func 82) [].toArray [].toArray)), (1, (Value.func (.func 83) [].toArray [].toArray))] : List (Int × Value))) (v := (Value.func (.func 83) [].toArray [].toArray)) f.kind Bo runUnderlying100 runUnderlying3 zeroValue98 hms2 ((Af (fun e => hq10 e.symm)).trans (Bv hq11.symm))) (k := ?_)
  refine jB ?_
  refine Bh (args := [_]) (Aa call83) func83 ntmps83 ?_
  refine Qp ?_
  refine Cg ?_
  refine rN ?_
  refine Zr ?_
  refine Ad (Al Lj) (k := ?_)
  refine Eh (Bc (l' := [_, _, _, _, _, _, _, _, _, _, _, _, _, _, _, _, _, _, _, _, _, _, _]) sizeOf3) (k := ?_)
  refine Zr ?_
  refine Ad (Al Qa) (k := ?_)
  refine Eh (Bc (l' := [_, _, _, _, _, _, _, _, _, _, _, _, _, _, _, _, _, _, _, _, _, _, _]) sizeOf9) (k := ?_)
  refine Z0 ?_
  refine Sv ?_
  refine Bh (args := [_]) (Aa call135) func135 ntmps135 ?_
  refine Z2 ?_
  refine Jj ?_
  refine mF ?_
  refine rQ ?_
  refine Z83 ?_
  have hch_32354 := Om s.a s.b
  refine qW ?_
  refine fC ?_
  refine Av results135 z1 ?_
  refine eY ?_
  refine Gf Ae cE (k := fun r9 hr9 => ?_)
  refine Cn ([(Frame.mk 2 f.stream ((Ol s.a s.b).1))] : List Frame) (List.nil_append _) Hq underlying39 Az Bi.nil (List.Perm.refl _) (Ch.lit (xs := ([(Frame.mk 2 f.stream ((Ol s.a s.b).1))] : List Frame)) Az) ⟨by omega, by omega⟩ (n := 0) (m := 1) (k := fun ax4 cx4 Bx4 hox4 => ?_)
  refine eX ?_
  refine E3 ?_
  refine Ef ?_
  refine Cx results83 Bk.nil ?_
  refine iX ?_
  refine Ac results14 (Bk.agg isAgg26 sizeOf26 rfl me rfl (Bk.tmp rfl (Bk.agg isAgg43 sizeOf43 rfl me rfl z1))) (fun w1 hw1 => ?_)
  exact ⟨ax1, s.opn.length, ax4, cx4, (Bx2 ++ Bx4), (rq ((((((hF.f hq1).f hq4).neg hq8).pos hq9).neg hq10).pos hq11)), (Aq (L := (Bx2 ++ Bx4)) (hw1.perm ((qb (qb q0)).trans (qd (qb (qb (qb q0)))))) (nA rfl).symm), (by rw [((((((hF.f hq1).f hq4).neg hq8).pos hq9).neg hq10).pos hq11).eq]; exact (hox2.slb Au)), (by rw [((((((hF.f hq1).f hq4).neg hq8).pos hq9).neg hq10).pos hq11).eq]; exact (hox4.slb Az)), (by rw [((((((hF.f hq1).f hq4).neg hq8).pos hq9).neg hq10).pos hq11).eq]; first | exact lb | (rw [Ak z8]; omega)), (by rw [((((((hF.f hq1).f hq4).neg hq8).pos hq9).neg hq10).pos hq11).eq]; first | exact lb | (rw [Ak z8]; omega))⟩
 refine Z2 ?_
 refine rU ?_
 refine Bd rfl (fun hq12 => ?_) (fun hq12 => ?_)
 ·refine Bw ?_
  refine Dn ?_
  refine Aj Ae Sx (k := fun r10 hr10 => ?_)
  refine Fs (ml := ([] : List (Int × Value))) 8 Bo runUnderlying100 runUnderlying3 (Hg.nil (enc := fun x : Int => vi x)) Hs q0 (k := fun em3 km3 hms3 => ?_)
  refine Fs (ml := ([(8, (Value.func (.func 82) [].toArray [].toArray))] : List (Int × Value))) 2 Bo runUnderlying100 runUnderlying3 hms3 Hs q0 (k := fun em4 km4 hms4 => ?_)
  refine Cg ?_
  refine qN ?_
  refine AB7 ?_
  by_cases hq13 : f.kind = 8
  ·refine Ay (Cy (l := ([(8, (Value.func (.func 82) [].toArray [].toArray)), (2, (Value.func (.func 84) [].toArray [].toArray))] : List (Int × Value))) (v := (Value.func (.func 82) [].toArray [].toArray)) f.kind Bo runUnderlying100 runUnderlying3 zeroValue98 hms4 (Bv hq13.symm)) (k := ?_)
   refine AA6 ?_
   refine Sv ?_
   refine rN ?_
   refine eY ?_
   refine Gf Ae cE (k := fun r11 hr11 => ?_)
   refine Cn ([(Frame.mk 8 f.stream f.data)] : List Frame) (List.nil_append _) Hq underlying39 Az Bi.nil (List.Perm.refl _) (Ch.lit (xs := ([(Frame.mk 8 f.stream f.data)] : List Frame)) Az) ⟨by omega, by omega⟩ (n := 0) (m := 1) (k := fun ax5 cx5 Bx5 hox5 => ?_)
   refine eX ?_
   refine E3 ?_
   refine Ef ?_
   refine Cx results82 Bk.nil ?_
   refine iX ?_
   refine Ac results14 (Bk.agg isAgg26 sizeOf26 rfl me rfl (Bk.tmp rfl (Bk.agg isAgg43 sizeOf43 rfl me rfl z1))) (fun w1 hw1 => ?_)
   exact ⟨ax1, s.opn.length, ax5, cx5, (Bx2 ++ Bx5), (rq ((((((hF.f hq1).f hq4).neg hq8).neg hq9).pos hq12).pos hq13)), (Aq (L := (Bx2 ++ Bx5)) (hw1.perm ((qb (qb q0)).trans (qd (qb (qb (qb q0)))))) (nA rfl).symm), (by rw [((((((hF.f hq1).f hq4).neg hq8).neg hq9).pos hq12).pos hq13).eq]; exact (hox2.slb Au)), (by rw [((((((hF.f hq1).f hq4).neg hq8).neg hq9).pos hq12).pos hq13).eq]; exact (hox5.slb Az)), (by rw [((((((hF.f hq1).f hq4).neg hq8).neg hq9).pos hq12).pos hq13).eq]; first | exact lb | (rw [Ak z8]; omega)), (by rw [((((((hF.f hq1).f hq4).neg hq8).neg hq9).pos hq12).pos hq13).eq]; first | exact lb | (rw [Ak z8]; omega))⟩
  by_cases hq14 : f.kind = 2
  rotate_left
  ·refine Ay (Pm (l := ([(8, (Value.func (.func 82) [].toArray [].toArray)), (2, (Value.func (.func 84) [].toArray [].toArray))] : List (Int × Value))) f.kind Bo runUnderlying100 runUnderlying3 zeroValue98 hms4 ((Af (fun e => hq13 e.symm)).trans ((Af (fun e => hq14 e.symm)).trans Jv))) (k := ?_)
   refine G4 ?_
   refine Sn ?_
   refine Dn ?_
   refine Ew ?_
   refine fH ?_
   refine fI ?_
   refine Ac results14 (Bk.agg isAgg26 sizeOf26 rfl me rfl (Bk.tmp rfl (Bk.agg isAgg43 sizeOf43 rfl me rfl z1))) (fun w1 hw1 => ?_)
   exact ⟨none, 0, none, 0, [], (rq (((((((hF.f hq1).f hq4).neg hq8).neg hq9).pos hq12).neg hq13).neg hq14)), (hw1.fresh_out.sub Mt), (rn (((((((hF.f hq1).f hq4).neg hq8).neg hq9).pos hq12).neg hq13).neg hq14)), (rn (((((((hF.f hq1).f hq4).neg hq8).neg hq9).pos hq12).neg hq13).neg hq14)), (by rw [(((((((hF.f hq1).f hq4).neg hq8).neg hq9).pos hq12).neg hq13).neg hq14).eq]; first | exact lb | (rw [Ak z8]; omega)), (by rw [(((((((hF.f hq1).f hq4).neg hq8).neg hq9).pos hq12).neg hq13).neg hq14).eq]; first | exact lb | (rw [Ak z8]; omega))⟩
  refine Ay (Cy (l := ([(8, (Value.func (.func 82) [].toArray [].toArray)), (2, (Value.func (.func 84) [].toArray [].toArray))] : List (Int × Value))) (v := (Value.func (.func 84) [].toArray [].toArray)) f.kind Bo runUnderlying100 runUnderlying3 zeroValue98 hms4 ((Af (fun e => hq13 e.symm)).trans (Bv hq14.symm))) (k := ?_)
  refine jB ?_
  refine Bh (args := [_]) (Aa call84) func84 ntmps84 ?_
  refine Z3 ?_
  refine Bh (args := [_]) (Aa call136) func136 ntmps136 ?_
  refine Z2 ?_
  refine Aj Ae Zl (k := fun r12 hr12 => ?_)
  refine Jj ?_
  refine fV (σ1 := List Ib) (σ2 := Option Addr) (σ3 := Nat) (σ4 := Am) (σ5 := List En) (σ6 := Option Addr) (σ7 := Nat) (σ8 := Am) (σ9 := Nat) (fun x_1 x_1a x_1c x_1B x_2 x_2a x_2c x_2B r293 => (x_2B ++ (x_1B ++ ((r293, oc [(vi ((Ct r s.name).1.handle.slot)), (vi ((Ct r s.name).1.handle.gen)), (vt ((Ct r s.name).1.name)), (vi ((Ct r s.name).1.state)), (vi ((Ct r s.name).1.version)), (vs x_1a x_1.length x_1c), (vs x_2a x_2.length x_2c), (vi ((Ct r s.name).1.deadline))] 50) :: ((r12, oc [(vi 0), (vi 0), (vt ([] : Ai)), (vi 0), (vi 0), (vs none 0 0), (vs none 0 0), (vi 0)] 50) :: ((r10, Obj.map em4 km4) :: (Bx2 ++ ((r6, oc [(vi s.phase), (vt s.name), (vi s.handle.slot), (vi s.handle.gen), (vi s.a), (vi s.b), (vs ax1 s.opn.length s.opn.length), (vi f.kind), (vi f.stream), (vt f.data), (vs r_Sg_a r.slots.gens.length r_Sg_c), (vs r_Su_a r.slots.used.length r_Su_c), (vs r_Sf_a r.slots.free.length r_Sf_c), (vs r_l_a r.l.length r_l_c), (vi r.seq), (vi now), (vs none 0 0), (vi 0), (vi 0), (vt ([] : Ai)), (vi 0), (vi 0), (vi 0)] 96) :: ((r5, oc [(vi 0), (vi 0), (vt ([] : Ai)), (vi 0), (vi 0), (vi 0)] 43) :: ((r4, oc [(vi 0), (vt ([] : Ai)), (vi 0), (vi 0), (vi 0), (vi 0), (vs none 0 0)] 26) :: [])))))))))) (fun x_1 x_1a x_1c x_1B x_2 x_2a x_2c x_2B r293 => [(0, (Value.pointer (some ⟨r6, 0, none⟩))), (2, (Value.pointer (some ⟨r12, 0, none⟩))), (3, (Value.bool false)), (4, (Value.pointer (some ⟨r293, 0, none⟩))), (5, (Value.bool ((Ct r s.name).2)))]) (fun x_1 x_1a x_1c x_1B x_2 x_2a x_2c x_2B r293 => Is (Is.xr2 (((((((hF.f hq1).f hq4).neg hq8).neg hq9).pos hq12).neg hq13).pos hq14)) (x_1, x_2) ∧ Bi Nk 5 84 x_1a x_1c x_1B x_1 ∧ Bi Jh 4 112 x_2a x_2c x_2B x_2 ∧ x_1.length ≤ 1000 ∧ x_2.length ≤ 1000) ?_ ?_
  ·skip
   refine Y8 ?_
   refine Ci 1 rfl z6 Mw (k := ?_)
   refine Ci 2 rfl z6 (Al qB) (k := ?_)
   refine Ci 3 rfl z6 (Bq isAgg34 sizeOf34) (k := ?_)
   refine Y9 ?_
   refine Ci 6 rfl z6 (Al Hn) (k := ?_)
   refine Ci 7 rfl z6 (Al Qa) (k := ?_)
   refine Ci 8 rfl z6 (Bb isAgg9) (k := ?_)
   refine Bn [9, 13] z6 rfl (List.forall_mem_cons.2 ⟨?_, (List.forall_mem_cons.2 ⟨?_, nofun⟩)⟩)
   ·skip
    refine K3 ?_
    rintro w1_201 e1_201 w2_201 hw1_201 ⟨a1_201, c1_201, a2_201, c2_201, B1_201, B2_201, he_201, hf_201, ho1_201, ho2_201, hl1_201, hl2_201⟩
    refine ⟨_, _, _, he_201, hf_201, (nA rfl).symm, ?_⟩
    refine rJ ?_
    refine Bn [13] z6 rfl (List.forall_mem_cons.2 ⟨?_, nofun⟩)
    ·skip
     refine Hp rfl Ae Zl (k := fun r293 hr293 => ?_)
     refine Bn [14] z6 rfl (List.forall_mem_cons.2 ⟨?_, nofun⟩)
     ·skip
      refine kI (V' := ((r293, _) :: [])) rfl S3 (k := ?_)
      refine rI ?_
      refine Z91 ?_
      exact Hu ((Ct r s.name).1.rules) a1_201 c1_201 B1_201 ((Ct r s.name).1.creds) a2_201 c2_201 B2_201 r293 ⟨(Is.refl (Is.xr2 (((((((hF.f hq1).f hq4).neg hq8).neg hq9).pos hq12).neg hq13).pos hq14))), ho1_201, ho2_201, S8, S8⟩ se (List.Perm.refl _)
   ·skip
    refine Hp rfl Ae Zl (k := fun r293 hr293 => ?_)
    refine Bn [9] z6 rfl (List.forall_mem_cons.2 ⟨?_, nofun⟩)
    ·skip
     refine K3 ?_
     rintro w1_201 e1_201 w2_201 hw1_201 ⟨a1_201, c1_201, a2_201, c2_201, B1_201, B2_201, he_201, hf_201, ho1_201, ho2_201, hl1_201, hl2_201⟩
     refine ⟨_, _, _, he_201, hf_201, (nA rfl).symm, ?_⟩
     refine rJ ?_
     refine Bn [14] z6 rfl (List.forall_mem_cons.2 ⟨?_, nofun⟩)
     ·skip
      refine kI (V' := ((r293, _) :: [])) rfl S3 (k := ?_)
      refine rI ?_
      refine Z91 ?_
      exact Hu ((Ct r s.name).1.rules) a1_201 c1_201 B1_201 ((Ct r s.name).1.creds) a2_201 c2_201 B2_201 r293 ⟨(Is.refl (Is.xr2 (((((((hF.f hq1).f hq4).neg hq8).neg hq9).pos hq12).neg hq13).pos hq14))), ho1_201, ho2_201, S8, S8⟩ se (List.Perm.refl _)
  rintro x_1 x_1a x_1c x_1B x_2 x_2a x_2c x_2B r293 ⟨hJ3, hx_1, hx_2, hi4, hi5⟩
  refine Gv ?_
  refine Ez ?_
  refine AJ9 ?_
  refine Mp ?_
  refine Jz 21 rfl (fun hq15 => ?_) (fun hq15 => ?_)
  rotate_left
  ·refine Bl 3 rfl ?_
   refine eR ?_
   refine Bl 16 rfl ?_
   refine Ay Du (k := ?_)
   refine D3 ?_
   refine jA ?_
   refine iC ?_
   refine Zp ?_
   refine Aj Ae Zl (k := fun r358 hr358 => ?_)
   refine vB ?_
   refine B7 ?_
   refine vK ?_
   refine Z4 ?_
   refine G6 ?_
   refine lR ?_
   refine G7 ?_
   refine Z4 ?_
   refine H3 ?_
   refine D0 ?_
   refine Pe _ (eqp nE) ?_
   refine Z2 ?_
   refine Jj ?_
   refine mF ?_
   refine rQ ?_
   refine Z83 ?_
   have hch_32354 := Om s.a s.b
   refine qW ?_
   refine fC ?_
   refine Z58 ?_
   refine rB ?_
   refine Z3 ?_
   refine rP ?_
   refine Ag 2 rfl ?_
   refine B0 ?_
   refine eV ?_
   refine fH ?_
   refine eQ ?_
   refine Fa ?_
   refine uW ?_
   refine fI ?_
   refine Ac results14 (Bk.agg isAgg26 sizeOf26 rfl me rfl (Bk.tmp rfl (Bk.agg isAgg43 sizeOf43 rfl me rfl z1))) (fun w1 hw1 => ?_)
   exact ⟨none, 0, none, 0, [], (rq (((((((((hF.f hq1).f hq4).neg hq8).neg hq9).pos hq12).neg hq13).pos hq14).rn2 hJ3).f hq15)), (hw1.fresh_out.sub Mt), (rn (((((((((hF.f hq1).f hq4).neg hq8).neg hq9).pos hq12).neg hq13).pos hq14).rn2 hJ3).f hq15)), (rn (((((((((hF.f hq1).f hq4).neg hq8).neg hq9).pos hq12).neg hq13).pos hq14).rn2 hJ3).f hq15)), (by rw [(((((((((hF.f hq1).f hq4).neg hq8).neg hq9).pos hq12).neg hq13).pos hq14).rn2 hJ3).f hq15).eq]; first | exact lb | (rw [Ak z8]; omega)), (by rw [(((((((((hF.f hq1).f hq4).neg hq8).neg hq9).pos hq12).neg hq13).pos hq14).rn2 hJ3).f hq15).eq]; first | exact lb | (rw [Ak z8]; omega))⟩
  refine Bj (Al Sf) (k := ?_)
  refine vO ?_
  refine Tf ?_
  refine Ge 26 rfl (fun hq16 => ?_) (fun hq16 => ?_)
  rotate_left
  ·refine Bl 16 rfl ?_
   refine Ay Du (k := ?_)
   refine D3 ?_
   refine jA ?_
   refine iC ?_
   refine Zp ?_
   refine Aj Ae Zl (k := fun r357 hr357 => ?_)
   refine vB ?_
   refine B7 ?_
   refine vK ?_
   refine Z4 ?_
   refine G6 ?_
   refine lR ?_
   refine G7 ?_
   refine Z4 ?_
   refine H3 ?_
   refine D0 ?_
   refine Pe _ (eqp nE) ?_
   refine Z2 ?_
   refine Jj ?_
   refine mF ?_
   refine rQ ?_
   refine Z83 ?_
   have hch_32354 := Om s.a s.b
   refine qW ?_
   refine fC ?_
   refine Z58 ?_
   refine rB ?_
   refine Z3 ?_
   refine rP ?_
   refine Ag 2 rfl ?_
   refine B0 ?_
   refine eV ?_
   refine fH ?_
   refine eQ ?_
   refine Fa ?_
   refine uW ?_
   refine fI ?_
   refine Ac results14 (Bk.agg isAgg26 sizeOf26 rfl me rfl (Bk.tmp rfl (Bk.agg isAgg43 sizeOf43 rfl me rfl z1))) (fun w1 hw1 => ?_)
   exact ⟨none, 0, none, 0, [], (rq ((((((((((hF.f hq1).f hq4).neg hq8).neg hq9).pos hq12).neg hq13).pos hq14).rn2 hJ3).t hq15).neg hq16)), (hw1.fresh_out.sub Mt), (rn ((((((((((hF.f hq1).f hq4).neg hq8).neg hq9).pos hq12).neg hq13).pos hq14).rn2 hJ3).t hq15).neg hq16)), (rn ((((((((((hF.f hq1).f hq4).neg hq8).neg hq9).pos hq12).neg hq13).pos hq14).rn2 hJ3).t hq15).neg hq16)), (by rw [((((((((((hF.f hq1).f hq4).neg hq8).neg hq9).pos hq12).neg hq13).pos hq14).rn2 hJ3).t hq15).neg hq16).eq]; first | exact lb | (rw [Ak z8]; omega)), (by rw [((((((((((hF.f hq1).f hq4).neg hq8).neg hq9).pos hq12).neg hq13).pos hq14).rn2 hJ3).t hq15).neg hq16).eq]; first | exact lb | (rw [Ak z8]; omega))⟩
  refine uO ?_
  refine Bj (Al Hn) (k := ?_)
  refine Bj (Al Lj) (k := ?_)
  refine jH ?_
  refine Bj Og (k := ?_)
  refine Pd ?_
  refine Ge 33 rfl (fun hq17 => ?_) (fun hq17 => ?_)
  ·refine Bl 8 rfl ?_
   refine Bj Fx (k := ?_)
   refine Ay Fx (k := ?_)
   refine D3 ?_
   refine jA ?_
   refine iC ?_
   refine Zp ?_
   refine Aj Ae Zl (k := fun r353 hr353 => ?_)
   refine vB ?_
   refine B7 ?_
   refine vK ?_
   refine Z4 ?_
   refine G6 ?_
   refine lR ?_
   refine G7 ?_
   refine Z4 ?_
   refine H3 ?_
   refine D0 ?_
   refine Pe _ (eqp nE) ?_
   refine Z2 ?_
   refine Jj ?_
   refine mF ?_
   refine rQ ?_
   refine Z83 ?_
   have hch_32354 := Om s.a s.b
   refine qW ?_
   refine fC ?_
   refine Z58 ?_
   refine rB ?_
   refine Z3 ?_
   refine rP ?_
   refine Ep ?_
   refine An It (k := ?_)
   refine Rx ?_
   refine Dc rfl (fun hq18 => ?_) (fun hq18 => ?_)
   ·refine Bw ?_
    refine Lq ?_
    refine fH ?_
    refine eQ ?_
    refine Fa ?_
    refine uW ?_
    refine fI ?_
    refine Ac results14 (Bk.agg isAgg26 sizeOf26 rfl me rfl (Bk.tmp rfl (Bk.agg isAgg43 sizeOf43 rfl me rfl z1))) (fun w1 hw1 => ?_)
    exact ⟨none, 0, none, 0, [], (rq ((((((((((((hF.f hq1).f hq4).neg hq8).neg hq9).pos hq12).neg hq13).pos hq14).rn2 hJ3).t hq15).pos hq16).pos hq17).t hq18)), (hw1.fresh_out.sub Mt), (rn ((((((((((((hF.f hq1).f hq4).neg hq8).neg hq9).pos hq12).neg hq13).pos hq14).rn2 hJ3).t hq15).pos hq16).pos hq17).t hq18)), (rn ((((((((((((hF.f hq1).f hq4).neg hq8).neg hq9).pos hq12).neg hq13).pos hq14).rn2 hJ3).t hq15).pos hq16).pos hq17).t hq18)), (by rw [((((((((((((hF.f hq1).f hq4).neg hq8).neg hq9).pos hq12).neg hq13).pos hq14).rn2 hJ3).t hq15).pos hq16).pos hq17).t hq18).eq]; first | exact lb | (rw [Ak z8]; omega)), (by rw [((((((((((((hF.f hq1).f hq4).neg hq8).neg hq9).pos hq12).neg hq13).pos hq14).rn2 hJ3).t hq15).pos hq16).pos hq17).t hq18).eq]; first | exact lb | (rw [Ak z8]; omega))⟩
   refine Qd ?_
   refine AL4 ?_
   refine Mp ?_
   refine AA2 ?_
   refine lP ?_
   refine AM2 ?_
   refine lP ?_
   refine AM1 ?_
   refine Pf ?_
   refine Fq (nC nE) ?_
   refine Jk ?_
   refine El _ (sk (sd (sx (sx (sk (sa (sk (sk sz)))))))) ?_
   refine Sv ?_
   refine Zr ?_
   refine vN ?_
   refine eY ?_
   refine Gf Ae cE (k := fun r354 hr354 => ?_)
   refine Cn ([(Frame.mk 1 f.stream s.name)] : List Frame) (List.nil_append _) Hq underlying39 Az Bi.nil (List.Perm.refl _) (Ch.lit (xs := ([(Frame.mk 1 f.stream s.name)] : List Frame)) Az) ⟨by omega, by omega⟩ (n := 0) (m := 1) (k := fun ax346 cx346 Bx346 hox346 => ?_)
   refine eX ?_
   refine Cc _ (sa (sd (sk (sk (sa (sk (sk sz))))))) ?_
   refine Cx results134 Bk.nil ?_
   refine Z0 ?_
   refine Y7 ?_
   refine Ef ?_
   refine Cx results84 Bk.nil ?_
   refine Jk ?_
   refine AK6 ?_
   refine Ac results14 (Bk.agg isAgg26 sizeOf26 rfl me rfl (Bk.tmp rfl (Bk.agg isAgg43 sizeOf43 rfl me rfl z1))) (fun w1 hw1 => ?_)
   exact ⟨ax1, s.opn.length, ax346, cx346, (Bx2 ++ Bx346), (rq ((((((((((((hF.f hq1).f hq4).neg hq8).neg hq9).pos hq12).neg hq13).pos hq14).rn2 hJ3).t hq15).pos hq16).pos hq17).f hq18)), (Aq (L := (Bx2 ++ Bx346)) (hw1.perm ((qb (qb q0)).trans (qd (qb (qb (qb (qb q0))))))) (nA rfl).symm), (by rw [((((((((((((hF.f hq1).f hq4).neg hq8).neg hq9).pos hq12).neg hq13).pos hq14).rn2 hJ3).t hq15).pos hq16).pos hq17).f hq18).eq]; exact (hox2.slb Au)), (by rw [((((((((((((hF.f hq1).f hq4).neg hq8).neg hq9).pos hq12).neg hq13).pos hq14).rn2 hJ3).t hq15).pos hq16).pos hq17).f hq18).eq]; exact (hox346.slb Az)), (by rw [((((((((((((hF.f hq1).f hq4).neg hq8).neg hq9).pos hq12).neg hq13).pos hq14).rn2 hJ3).t hq15).pos hq16).pos hq17).f hq18).eq]; first | exact lb | (rw [Ak z8]; omega)), (by rw [((((((((((((hF.f hq1).f hq4).neg hq8).neg hq9).pos hq12).neg hq13).pos hq14).rn2 hJ3).t hq15).pos hq16).pos hq17).f hq18).eq]; first | exact lb | (rw [Ak z8]; omega))⟩
  refine Bj (Al Li) (k := ?_)
  refine Bj A7 (k := ?_)
  refine uO ?_
  refine Bj (Al Hn) (k := ?_)
  refine Bj (Al Vt) (k := ?_)
  refine Bj A7 (k := ?_)
  refine Bj (Xh (pP _ _ _ _ _ _)) (k := ?_)
  refine Bj Du (k := ?_)
  refine Ay Fx (k := ?_)
  refine D3 ?_
  refine jA ?_
  refine iC ?_
  refine Zp ?_
  refine Aj Ae Zl (k := fun r355 hr355 => ?_)
  refine vB ?_
  refine B7 ?_
  refine vK ?_
  refine Z4 ?_
  refine G6 ?_
  refine lR ?_
  refine G7 ?_
  refine Z4 ?_
  refine H3 ?_
  refine D0 ?_
  refine Pe _ (eqp nE) ?_
  refine Z2 ?_
  refine Jj ?_
  refine mF ?_
  refine rQ ?_
  refine Z83 ?_
  have hch_32354 := Om s.a s.b
  refine qW ?_
  refine fC ?_
  refine Z58 ?_
  refine rB ?_
  refine Z3 ?_
  refine Ad aK (k := ?_)
  refine Cg ?_
  refine Aw 35 rfl (fun hq19 => ?_) (fun hq19 => ?_)
  ·refine Ag 2 rfl ?_
   refine B0 ?_
   refine eV ?_
   refine fH ?_
   refine eQ ?_
   refine Fa ?_
   refine uW ?_
   refine fI ?_
   refine Ac results14 (Bk.agg isAgg26 sizeOf26 rfl me rfl (Bk.tmp rfl (Bk.agg isAgg43 sizeOf43 rfl me rfl z1))) (fun w1 hw1 => ?_)
   exact ⟨none, 0, none, 0, [], (rq ((((((((((((hF.f hq1).f hq4).neg hq8).neg hq9).pos hq12).neg hq13).pos hq14).rn2 hJ3).t hq15).pos hq16).neg hq17).pos hq19)), (hw1.fresh_out.sub Mt), (rn ((((((((((((hF.f hq1).f hq4).neg hq8).neg hq9).pos hq12).neg hq13).pos hq14).rn2 hJ3).t hq15).pos hq16).neg hq17).pos hq19)), (rn ((((((((((((hF.f hq1).f hq4).neg hq8).neg hq9).pos hq12).neg hq13).pos hq14).rn2 hJ3).t hq15).pos hq16).neg hq17).pos hq19)), (by rw [((((((((((((hF.f hq1).f hq4).neg hq8).neg hq9).pos hq12).neg hq13).pos hq14).rn2 hJ3).t hq15).pos hq16).neg hq17).pos hq19).eq]; first | exact lb | (rw [Ak z8]; omega)), (by rw [((((((((((((hF.f hq1).f hq4).neg hq8).neg hq9).pos hq12).neg hq13).pos hq14).rn2 hJ3).t hq15).pos hq16).neg hq17).pos hq19).eq]; first | exact lb | (rw [Ak z8]; omega))⟩
  refine Ep ?_
  refine An It (k := ?_)
  refine Rx ?_
  refine Dc rfl (fun hq20 => ?_) (fun hq20 => ?_)
  ·refine Bw ?_
   refine Lq ?_
   refine fH ?_
   refine eQ ?_
   refine Fa ?_
   refine uW ?_
   refine fI ?_
   refine Ac results14 (Bk.agg isAgg26 sizeOf26 rfl me rfl (Bk.tmp rfl (Bk.agg isAgg43 sizeOf43 rfl me rfl z1))) (fun w1 hw1 => ?_)
   exact ⟨none, 0, none, 0, [], (rq (((((((((((((hF.f hq1).f hq4).neg hq8).neg hq9).pos hq12).neg hq13).pos hq14).rn2 hJ3).t hq15).pos hq16).neg hq17).neg hq19).t hq20)), (hw1.fresh_out.sub Mt), (rn (((((((((((((hF.f hq1).f hq4).neg hq8).neg hq9).pos hq12).neg hq13).pos hq14).rn2 hJ3).t hq15).pos hq16).neg hq17).neg hq19).t hq20)), (rn (((((((((((((hF.f hq1).f hq4).neg hq8).neg hq9).pos hq12).neg hq13).pos hq14).rn2 hJ3).t hq15).pos hq16).neg hq17).neg hq19).t hq20)), (by rw [(((((((((((((hF.f hq1).f hq4).neg hq8).neg hq9).pos hq12).neg hq13).pos hq14).rn2 hJ3).t hq15).pos hq16).neg hq17).neg hq19).t hq20).eq]; first | exact lb | (rw [Ak z8]; omega)), (by rw [(((((((((((((hF.f hq1).f hq4).neg hq8).neg hq9).pos hq12).neg hq13).pos hq14).rn2 hJ3).t hq15).pos hq16).neg hq17).neg hq19).t hq20).eq]; first | exact lb | (rw [Ak z8]; omega))⟩
  refine Qd ?_
  refine AL4 ?_
  refine Mp ?_
  refine AA2 ?_
  refine lP ?_
  refine AM2 ?_
  refine lP ?_
  refine AM1 ?_
  refine Pf ?_
  refine Fq (nC nE) ?_
  refine Jk ?_
  refine El _ (sk (sd (sx (sx (sk (sa (sk (sk sz)))))))) ?_
  refine Sv ?_
  refine Zr ?_
  refine vN ?_
  refine eY ?_
  refine Gf Ae cE (k := fun r356 hr356 => ?_)
  refine Cn ([(Frame.mk 1 f.stream s.name)] : List Frame) (List.nil_append _) Hq underlying39 Az Bi.nil (List.Perm.refl _) (Ch.lit (xs := ([(Frame.mk 1 f.stream s.name)] : List Frame)) Az) ⟨by omega, by omega⟩ (n := 0) (m := 1) (k := fun ax347 cx347 Bx347 hox347 => ?_)
  refine eX ?_
  refine Cc _ (sa (sd (sk (sk (sa (sk (sk sz))))))) ?_
  refine Cx results134 Bk.nil ?_
  refine Z0 ?_
  refine Y7 ?_
  refine Ef ?_
  refine Cx results84 Bk.nil ?_
  refine Jk ?_
  refine AK6 ?_
  refine Ac results14 (Bk.agg isAgg26 sizeOf26 rfl me rfl (Bk.tmp rfl (Bk.agg isAgg43 sizeOf43 rfl me rfl z1))) (fun w1 hw1 => ?_)
  exact ⟨ax1, s.opn.length, ax347, cx347, (Bx2 ++ Bx347), (rq (((((((((((((hF.f hq1).f hq4).neg hq8).neg hq9).pos hq12).neg hq13).pos hq14).rn2 hJ3).t hq15).pos hq16).neg hq17).neg hq19).f hq20)), (Aq (L := (Bx2 ++ Bx347)) (hw1.perm ((qb (qb q0)).trans (qd (qb (qb (qb (qb q0))))))) (nA rfl).symm), (by rw [(((((((((((((hF.f hq1).f hq4).neg hq8).neg hq9).pos hq12).neg hq13).pos hq14).rn2 hJ3).t hq15).pos hq16).neg hq17).neg hq19).f hq20).eq]; exact (hox2.slb Au)), (by rw [(((((((((((((hF.f hq1).f hq4).neg hq8).neg hq9).pos hq12).neg hq13).pos hq14).rn2 hJ3).t hq15).pos hq16).neg hq17).neg hq19).f hq20).eq]; exact (hox347.slb Az)), (by rw [(((((((((((((hF.f hq1).f hq4).neg hq8).neg hq9).pos hq12).neg hq13).pos hq14).rn2 hJ3).t hq15).pos hq16).neg hq17).neg hq19).f hq20).eq]; first | exact lb | (rw [Ak z8]; omega)), (by rw [(((((((((((((hF.f hq1).f hq4).neg hq8).neg hq9).pos hq12).neg hq13).pos hq14).rn2 hJ3).t hq15).pos hq16).neg hq17).neg hq19).f hq20).eq]; first | exact lb | (rw [Ak z8]; omega))⟩
 refine Br ?_
 refine Ti ?_
 refine Aj Ae Sx (k := fun r359 hr359 => ?_)
 refine Fs (ml := ([] : List (Int × Value))) 8 Bo runUnderlying100 runUnderlying3 (Hg.nil (enc := fun x : Int => vi x)) Hs q0 (k := fun em5 km5 hms5 => ?_)
 refine Fs (ml := ([(8, (Value.func (.func 82) [].toArray [].toArray))] : List (Int × Value))) 3 Bo runUnderlying100 runUnderlying3 hms5 Hs q0 (k := fun em6 km6 hms6 => ?_)
 refine Fs (ml := ([(8, (Value.func (.func 82) [].toArray [].toArray)), (3, (Value.func (.func 85) [].toArray [].toArray))] : List (Int × Value))) 4 Bo runUnderlying100 runUnderlying3 hms6 Hs q0 (k := fun em7 km7 hms7 => ?_)
 refine Fs (ml := ([(8, (Value.func (.func 82) [].toArray [].toArray)), (3, (Value.func (.func 85) [].toArray [].toArray)), (4, (Value.func (.func 86) [].toArray [].toArray))] : List (Int × Value))) 5 Bo runUnderlying100 runUnderlying3 hms7 Hs q0 (k := fun em8 km8 hms8 => ?_)
 refine Fs (ml := ([(8, (Value.func (.func 82) [].toArray [].toArray)), (3, (Value.func (.func 85) [].toArray [].toArray)), (4, (Value.func (.func 86) [].toArray [].toArray)), (5, (Value.func (.func 87) [].toArray [].toArray))] : List (Int × Value))) 6 Bo runUnderlying100 runUnderlying3 hms8 Hs q0 (k := fun em9 km9 hms9 => ?_)
 refine Fs (ml := ([(8, (Value.func (.func 82) [].toArray [].toArray)), (3, (Value.func (.func 85) [].toArray [].toArray)), (4, (Value.func (.func 86) [].toArray [].toArray)), (5, (Value.func (.func 87) [].toArray [].toArray)), (6, (Value.func (.func 88) [].toArray [].toArray))] : List (Int × Value))) 7 Bo runUnderlying100 runUnderlying3 hms9 Hs q0 (k := fun em10 km10 hms10 => ?_)
 refine Cg ?_
 refine Z5 ?_
 refine AB7 ?_
 by_cases hq21 : f.kind = 8
 ·refine Ay (Cy (l := ([(8, (Value.func (.func 82) [].toArray [].toArray)), (3, (Value.func (.func 85) [].toArray [].toArray)), (4, (Value.func (.func 86) [].toArray [].toArray)), (5, (Value.func (.func 87) [].toArray [].toArray)), (6, (Value.func (.func 88) [].toArray [].toArray)), (7, (Value.func (.func 89) [].toArray [].toArray))] : List (Int × Value))) (v := (Value.func (.func 82) [].toArray [].toArray)) f.kind Bo runUnderlying100 runUnderlying3 zeroValue98 hms10 (Bv hq21.symm)) (k := ?_)
  refine AA6 ?_
  refine Sv ?_
  refine rN ?_
  refine eY ?_
  refine Gf Ae cE (k := fun r360 hr360 => ?_)
  refine Cn ([(Frame.mk 8 f.stream f.data)] : List Frame) (List.nil_append _) Hq underlying39 Az Bi.nil (List.Perm.refl _) (Ch.lit (xs := ([(Frame.mk 8 f.stream f.data)] : List Frame)) Az) ⟨by omega, by omega⟩ (n := 0) (m := 1) (k := fun ax348 cx348 Bx348 hox348 => ?_)
  refine eX ?_
  refine E3 ?_
  refine Ef ?_
  refine Cx results82 Bk.nil ?_
  refine iX ?_
  refine Ac results14 (Bk.agg isAgg26 sizeOf26 rfl me rfl (Bk.tmp rfl (Bk.agg isAgg43 sizeOf43 rfl me rfl z1))) (fun w1 hw1 => ?_)
  exact ⟨ax1, s.opn.length, ax348, cx348, (Bx2 ++ Bx348), (rq ((((((hF.f hq1).f hq4).neg hq8).neg hq9).neg hq12).pos hq21)), (Aq (L := (Bx2 ++ Bx348)) (hw1.perm ((qb (qb q0)).trans (qd (qb (qb (qb q0)))))) (nA rfl).symm), (by rw [((((((hF.f hq1).f hq4).neg hq8).neg hq9).neg hq12).pos hq21).eq]; exact (hox2.slb Au)), (by rw [((((((hF.f hq1).f hq4).neg hq8).neg hq9).neg hq12).pos hq21).eq]; exact (hox348.slb Az)), (by rw [((((((hF.f hq1).f hq4).neg hq8).neg hq9).neg hq12).pos hq21).eq]; first | exact lb | (rw [Ak z8]; omega)), (by rw [((((((hF.f hq1).f hq4).neg hq8).neg hq9).neg hq12).pos hq21).eq]; first | exact lb | (rw [Ak z8]; omega))⟩
 by_cases hq22 : f.kind = 3
 rotate_left
 ·by_cases hq36 : f.kind = 4
  ·refine Ay (Cy (l := ([(8, (Value.func (.func 82) [].toArray [].toArray)), (3, (Value.func (.func 85) [].toArray [].toArray)), (4, (Value.func (.func 86) [].toArray [].toArray)), (5, (Value.func (.func 87) [].toArray [].toArray)), (6, (Value.func (.func 88) [].toArray [].toArray)), (7, (Value.func (.func 89) [].toArray [].toArray))] : List (Int × Value))) (v := (Value.func (.func 86) [].toArray [].toArray)) f.kind Bo runUnderlying100 runUnderlying3 zeroValue98 hms10 ((Af (fun e => hq21 e.symm)).trans ((Af (fun e => hq22 e.symm)).trans (Bv hq36.symm)))) (k := ?_)
   refine jB ?_
   refine Bh (args := [_]) (Aa call86) func86 ntmps86 ?_
   refine Sv ?_
   refine rN ?_
   refine jM ?_
   refine AA3 ?_
   refine Aj Ae tY (k := fun r739 hr739 => ?_)
   refine Jk ?_
   refine X3 ?_
   refine uN ?_
   refine C1 ?_
   refine Ay It (k := ?_)
   refine lU ?_
   refine Dc rfl (fun hq37 => ?_) (fun hq37 => ?_)
   ·refine Bw ?_
    refine F5 ?_
    refine Gf Ae cE (k := fun r740 hr740 => ?_)
    refine Cn ([(Frame.mk 7 f.stream ([] : Ai))] : List Frame) (List.nil_append _) Hq underlying39 Az Bi.nil (List.Perm.refl _) (Ch.lit (xs := ([(Frame.mk 7 f.stream ([] : Ai))] : List Frame)) Az) ⟨by omega, by omega⟩ (n := 0) (m := 1) (k := fun ax706 cx706 Bx706 hox706 => ?_)
    refine F6 ?_
    refine B9 ?_
    refine Av results145 Bk.nil ?_
    refine Ef ?_
    refine Cx results86 Bk.nil ?_
    refine iX ?_
    refine Ac results14 (Bk.agg isAgg26 sizeOf26 rfl me rfl (Bk.tmp rfl (Bk.agg isAgg43 sizeOf43 rfl me rfl z1))) (fun w1 hw1 => ?_)
    exact ⟨ax1, s.opn.length, ax706, cx706, (Bx2 ++ Bx706), (rq (((((((((hF.f hq1).f hq4).neg hq8).neg hq9).neg hq12).neg hq21).neg hq22).pos hq36).t hq37)), (Aq (L := (Bx2 ++ Bx706)) (hw1.perm ((qb (qb q0)).trans (qd (qb (qb (qb q0)))))) (nA rfl).symm), (by rw [(((((((((hF.f hq1).f hq4).neg hq8).neg hq9).neg hq12).neg hq21).neg hq22).pos hq36).t hq37).eq]; exact (hox2.slb Au)), (by rw [(((((((((hF.f hq1).f hq4).neg hq8).neg hq9).neg hq12).neg hq21).neg hq22).pos hq36).t hq37).eq]; exact (hox706.slb Az)), (by rw [(((((((((hF.f hq1).f hq4).neg hq8).neg hq9).neg hq12).neg hq21).neg hq22).pos hq36).t hq37).eq]; first | exact lb | (rw [Ak z8]; omega)), (by rw [(((((((((hF.f hq1).f hq4).neg hq8).neg hq9).neg hq12).neg hq21).neg hq22).pos hq36).t hq37).eq]; first | exact lb | (rw [Ak z8]; omega))⟩
   refine Qd ?_
   refine cI ?_
   refine lT ?_
   refine Aj Ae tY (k := fun r741 hr741 => ?_)
   refine Jm ?_
   refine iF ?_
   refine mD ?_
   refine Zs ?_
   refine cI ?_
   refine iP ?_
   refine Ef ?_
   refine Cc _ (sd (sk (sk (sa (sk (sk (sk sz))))))) ?_
   refine mB ?_
   refine AA4 ?_
   refine Ef ?_
   refine Cx results86 Bk.nil ?_
   refine uG ?_
   refine Yb ?_
   refine Ac results14 (Bk.agg isAgg26 sizeOf26 rfl me rfl (Bk.tmp rfl (Bk.agg isAgg43 sizeOf43 rfl me rfl z1))) (fun w1 hw1 => ?_)
   exact ⟨ax1, s.opn.length, none, 0, Bx2, (rq (((((((((hF.f hq1).f hq4).neg hq8).neg hq9).neg hq12).neg hq21).neg hq22).pos hq36).f hq37)), (Aq (L := Bx2) (hw1.perm (qb (qb (qb q0)))) rfl.symm), (by rw [(((((((((hF.f hq1).f hq4).neg hq8).neg hq9).neg hq12).neg hq21).neg hq22).pos hq36).f hq37).eq]; exact (hox2.slb Au)), (rn (((((((((hF.f hq1).f hq4).neg hq8).neg hq9).neg hq12).neg hq21).neg hq22).pos hq36).f hq37)), (by rw [(((((((((hF.f hq1).f hq4).neg hq8).neg hq9).neg hq12).neg hq21).neg hq22).pos hq36).f hq37).eq]; first | exact lb | (rw [Ak z8]; omega)), (by rw [(((((((((hF.f hq1).f hq4).neg hq8).neg hq9).neg hq12).neg hq21).neg hq22).pos hq36).f hq37).eq]; first | exact lb | (rw [Ak z8]; omega))⟩
  by_cases hq38 : f.kind = 5
  ·refine Ay (Cy (l := ([(8, (Value.func (.func 82) [].toArray [].toArray)), (3, (Value.func (.func 85) [].toArray [].toArray)), (4, (Value.func (.func 86) [].toArray [].toArray)), (5, (Value.func (.func 87) [].toArray [].toArray)), (6, (Value.func (.func 88) [].toArray [].toArray)), (7, (Value.func (.func 89) [].toArray [].toArray))] : List (Int × Value))) (v := (Value.func (.func 87) [].toArray [].toArray)) f.kind Bo runUnderlying100 runUnderlying3 zeroValue98 hms10 ((Af (fun e => hq21 e.symm)).trans ((Af (fun e => hq22 e.symm)).trans ((Af (fun e => hq36 e.symm)).trans (Bv hq38.symm))))) (k := ?_)
   refine jB ?_
   refine Bh (args := [_]) (Aa call87) func87 ntmps87 ?_
   refine Sv ?_
   refine rN ?_
   refine Co (Aa call146) (fun w1 hw1 => zP w1 (s := f.data)) (k := ?_)
   refine jM ?_
   refine AA3 ?_
   refine Aj Ae tY (k := fun r742 hr742 => ?_)
   refine Jk ?_
   refine X3 ?_
   refine uN ?_
   refine C1 ?_
   refine Ay It (k := ?_)
   refine lU ?_
   refine Dc rfl (fun hq39 => ?_) (fun hq39 => ?_)
   ·refine Bw ?_
    refine F5 ?_
    refine Gf Ae cE (k := fun r743 hr743 => ?_)
    refine Cn ([(Frame.mk 7 f.stream ([] : Ai))] : List Frame) (List.nil_append _) Hq underlying39 Az Bi.nil (List.Perm.refl _) (Ch.lit (xs := ([(Frame.mk 7 f.stream ([] : Ai))] : List Frame)) Az) ⟨by omega, by omega⟩ (n := 0) (m := 1) (k := fun ax707 cx707 Bx707 hox707 => ?_)
    refine F6 ?_
    refine B9 ?_
    refine Av results145 Bk.nil ?_
    refine Ef ?_
    refine Cx results87 Bk.nil ?_
    refine iX ?_
    refine Ac results14 (Bk.agg isAgg26 sizeOf26 rfl me rfl (Bk.tmp rfl (Bk.agg isAgg43 sizeOf43 rfl me rfl z1))) (fun w1 hw1 => ?_)
    exact ⟨ax1, s.opn.length, ax707, cx707, (Bx2 ++ Bx707), (rq ((((((((((hF.f hq1).f hq4).neg hq8).neg hq9).neg hq12).neg hq21).neg hq22).neg hq36).pos hq38).t hq39)), (Aq (L := (Bx2 ++ Bx707)) (hw1.perm ((qb (qb q0)).trans (qd (qb (qb (qb q0)))))) (nA rfl).symm), (by rw [((((((((((hF.f hq1).f hq4).neg hq8).neg hq9).neg hq12).neg hq21).neg hq22).neg hq36).pos hq38).t hq39).eq]; exact (hox2.slb Au)), (by rw [((((((((((hF.f hq1).f hq4).neg hq8).neg hq9).neg hq12).neg hq21).neg hq22).neg hq36).pos hq38).t hq39).eq]; exact (hox707.slb Az)), (by rw [((((((((((hF.f hq1).f hq4).neg hq8).neg hq9).neg hq12).neg hq21).neg hq22).neg hq36).pos hq38).t hq39).eq]; first | exact lb | (rw [Ak z8]; omega)), (by rw [((((((((((hF.f hq1).f hq4).neg hq8).neg hq9).neg hq12).neg hq21).neg hq22).neg hq36).pos hq38).t hq39).eq]; first | exact lb | (rw [Ak z8]; omega))⟩
   refine Qd ?_
   refine cI ?_
   refine lT ?_
   refine Aj Ae tY (k := fun r744 hr744 => ?_)
   refine Jm ?_
   refine iF ?_
   refine mD ?_
   refine Zs ?_
   refine cI ?_
   refine iP ?_
   refine Ef ?_
   refine Cc _ (sd (sk (sk (sa (sk (sk (sk sz))))))) ?_
   refine mB ?_
   refine AA4 ?_
   refine Ef ?_
   refine Cx results87 Bk.nil ?_
   refine uG ?_
   refine Yb ?_
   refine Ac results14 (Bk.agg isAgg26 sizeOf26 rfl me rfl (Bk.tmp rfl (Bk.agg isAgg43 sizeOf43 rfl me rfl z1))) (fun w1 hw1 => ?_)
   exact ⟨ax1, s.opn.length, none, 0, Bx2, (rq ((((((((((hF.f hq1).f hq4).neg hq8).neg hq9).neg hq12).neg hq21).neg hq22).neg hq36).pos hq38).f hq39)), (Aq (L := Bx2) (hw1.perm (qb (qb (qb q0)))) rfl.symm), (by rw [((((((((((hF.f hq1).f hq4).neg hq8).neg hq9).neg hq12).neg hq21).neg hq22).neg hq36).pos hq38).f hq39).eq]; exact (hox2.slb Au)), (rn ((((((((((hF.f hq1).f hq4).neg hq8).neg hq9).neg hq12).neg hq21).neg hq22).neg hq36).pos hq38).f hq39)), (by rw [((((((((((hF.f hq1).f hq4).neg hq8).neg hq9).neg hq12).neg hq21).neg hq22).neg hq36).pos hq38).f hq39).eq]; first | exact lb | (rw [Ak z8]; omega)), (by rw [((((((((((hF.f hq1).f hq4).neg hq8).neg hq9).neg hq12).neg hq21).neg hq22).neg hq36).pos hq38).f hq39).eq]; first | exact lb | (rw [Ak z8]; omega))⟩
  by_cases hq40 : f.kind = 6
  ·refine Ay (Cy (l := ([(8, (Value.func (.func 82) [].toArray [].toArray)), (3, (Value.func (.func 85) [].toArray [].toArray)), (4, (Value.func (.func 86) [].toArray [].toArray)), (5, (Value.func (.func 87) [].toArray [].toArray)), (6, (Value.func (.func 88) [].toArray [].toArray)), (7, (Value.func (.func 89) [].toArray [].toArray))] : List (Int × Value))) (v := (Value.func (.func 88) [].toArray [].toArray)) f.kind Bo runUnderlying100 runUnderlying3 zeroValue98 hms10 ((Af (fun e => hq21 e.symm)).trans ((Af (fun e => hq22 e.symm)).trans ((Af (fun e => hq36 e.symm)).trans ((Af (fun e => hq38 e.symm)).trans (Bv hq40.symm)))))) (k := ?_)
   refine jB ?_
   refine Bh (args := [_]) (Aa call88) func88 ntmps88 ?_
   refine B8 ?_
   refine AA3 ?_
   refine Aj Ae tY (k := fun r745 hr745 => ?_)
   refine Jk ?_
   refine X3 ?_
   refine uN ?_
   refine C1 ?_
   refine Ay It (k := ?_)
   refine lU ?_
   refine Dc rfl (fun hq41 => ?_) (fun hq41 => ?_)
   ·refine Bw ?_
    refine F5 ?_
    refine Gf Ae cE (k := fun r746 hr746 => ?_)
    refine Cn ([(Frame.mk 7 f.stream ([] : Ai))] : List Frame) (List.nil_append _) Hq underlying39 Az Bi.nil (List.Perm.refl _) (Ch.lit (xs := ([(Frame.mk 7 f.stream ([] : Ai))] : List Frame)) Az) ⟨by omega, by omega⟩ (n := 0) (m := 1) (k := fun ax708 cx708 Bx708 hox708 => ?_)
    refine F6 ?_
    refine B9 ?_
    refine Av results145 Bk.nil ?_
    refine Ef ?_
    refine Cx results88 Bk.nil ?_
    refine iX ?_
    refine Ac results14 (Bk.agg isAgg26 sizeOf26 rfl me rfl (Bk.tmp rfl (Bk.agg isAgg43 sizeOf43 rfl me rfl z1))) (fun w1 hw1 => ?_)
    exact ⟨ax1, s.opn.length, ax708, cx708, (Bx2 ++ Bx708), (rq (((((((((((hF.f hq1).f hq4).neg hq8).neg hq9).neg hq12).neg hq21).neg hq22).neg hq36).neg hq38).pos hq40).t hq41)), (Aq (L := (Bx2 ++ Bx708)) (hw1.perm ((qb (qb q0)).trans (qd (qb (qb (qb q0)))))) (nA rfl).symm), (by rw [(((((((((((hF.f hq1).f hq4).neg hq8).neg hq9).neg hq12).neg hq21).neg hq22).neg hq36).neg hq38).pos hq40).t hq41).eq]; exact (hox2.slb Au)), (by rw [(((((((((((hF.f hq1).f hq4).neg hq8).neg hq9).neg hq12).neg hq21).neg hq22).neg hq36).neg hq38).pos hq40).t hq41).eq]; exact (hox708.slb Az)), (by rw [(((((((((((hF.f hq1).f hq4).neg hq8).neg hq9).neg hq12).neg hq21).neg hq22).neg hq36).neg hq38).pos hq40).t hq41).eq]; first | exact lb | (rw [Ak z8]; omega)), (by rw [(((((((((((hF.f hq1).f hq4).neg hq8).neg hq9).neg hq12).neg hq21).neg hq22).neg hq36).neg hq38).pos hq40).t hq41).eq]; first | exact lb | (rw [Ak z8]; omega))⟩
   refine Qd ?_
   refine cI ?_
   refine lT ?_
   refine Aj Ae tY (k := fun r747 hr747 => ?_)
   refine Jm ?_
   refine iF ?_
   refine mD ?_
   refine Zs ?_
   refine cI ?_
   refine iP ?_
   refine Ef ?_
   refine Cc _ (sd (sk (sk (sa (sk (sk (sk sz))))))) ?_
   refine mB ?_
   refine AA4 ?_
   refine Ef ?_
   refine Cx results88 Bk.nil ?_
   refine uG ?_
   refine Yb ?_
   refine Ac results14 (Bk.agg isAgg26 sizeOf26 rfl me rfl (Bk.tmp rfl (Bk.agg isAgg43 sizeOf43 rfl me rfl z1))) (fun w1 hw1 => ?_)
   exact ⟨ax1, s.opn.length, none, 0, Bx2, (rq (((((((((((hF.f hq1).f hq4).neg hq8).neg hq9).neg hq12).neg hq21).neg hq22).neg hq36).neg hq38).pos hq40).f hq41)), (Aq (L := Bx2) (hw1.perm (qb (qb (qb q0)))) rfl.symm), (by rw [(((((((((((hF.f hq1).f hq4).neg hq8).neg hq9).neg hq12).neg hq21).neg hq22).neg hq36).neg hq38).pos hq40).f hq41).eq]; exact (hox2.slb Au)), (rn (((((((((((hF.f hq1).f hq4).neg hq8).neg hq9).neg hq12).neg hq21).neg hq22).neg hq36).neg hq38).pos hq40).f hq41)), (by rw [(((((((((((hF.f hq1).f hq4).neg hq8).neg hq9).neg hq12).neg hq21).neg hq22).neg hq36).neg hq38).pos hq40).f hq41).eq]; first | exact lb | (rw [Ak z8]; omega)), (by rw [(((((((((((hF.f hq1).f hq4).neg hq8).neg hq9).neg hq12).neg hq21).neg hq22).neg hq36).neg hq38).pos hq40).f hq41).eq]; first | exact lb | (rw [Ak z8]; omega))⟩
  by_cases hq42 : f.kind = 7
  rotate_left
  ·refine Ay (Pm (l := ([(8, (Value.func (.func 82) [].toArray [].toArray)), (3, (Value.func (.func 85) [].toArray [].toArray)), (4, (Value.func (.func 86) [].toArray [].toArray)), (5, (Value.func (.func 87) [].toArray [].toArray)), (6, (Value.func (.func 88) [].toArray [].toArray)), (7, (Value.func (.func 89) [].toArray [].toArray))] : List (Int × Value))) f.kind Bo runUnderlying100 runUnderlying3 zeroValue98 hms10 ((Af (fun e => hq21 e.symm)).trans ((Af (fun e => hq22 e.symm)).trans ((Af (fun e => hq36 e.symm)).trans ((Af (fun e => hq38 e.symm)).trans ((Af (fun e => hq40 e.symm)).trans ((Af (fun e => hq42 e.symm)).trans Jv))))))) (k := ?_)
   refine G4 ?_
   refine Sn ?_
   refine Dn ?_
   refine Ew ?_
   refine fH ?_
   refine fI ?_
   refine Ac results14 (Bk.agg isAgg26 sizeOf26 rfl me rfl (Bk.tmp rfl (Bk.agg isAgg43 sizeOf43 rfl me rfl z1))) (fun w1 hw1 => ?_)
   exact ⟨none, 0, none, 0, [], (rq (((((((((((hF.f hq1).f hq4).neg hq8).neg hq9).neg hq12).neg hq21).neg hq22).neg hq36).neg hq38).neg hq40).neg hq42)), (hw1.fresh_out.sub Mt), (rn (((((((((((hF.f hq1).f hq4).neg hq8).neg hq9).neg hq12).neg hq21).neg hq22).neg hq36).neg hq38).neg hq40).neg hq42)), (rn (((((((((((hF.f hq1).f hq4).neg hq8).neg hq9).neg hq12).neg hq21).neg hq22).neg hq36).neg hq38).neg hq40).neg hq42)), (by rw [(((((((((((hF.f hq1).f hq4).neg hq8).neg hq9).neg hq12).neg hq21).neg hq22).neg hq36).neg hq38).neg hq40).neg hq42).eq]; first | exact lb | (rw [Ak z8]; omega)), (by rw [(((((((((((hF.f hq1).f hq4).neg hq8).neg hq9).neg hq12).neg hq21).neg hq22).neg hq36).neg hq38).neg hq40).neg hq42).eq]; first | exact lb | (rw [Ak z8]; omega))⟩
  refine Ay (Cy (l := ([(8, (Value.func (.func 82) [].toArray [].toArray)), (3, (Value.func (.func 85) [].toArray [].toArray)), (4, (Value.func (.func 86) [].toArray [].toArray)), (5, (Value.func (.func 87) [].toArray [].toArray)), (6, (Value.func (.func 88) [].toArray [].toArray)), (7, (Value.func (.func 89) [].toArray [].toArray))] : List (Int × Value))) (v := (Value.func (.func 89) [].toArray [].toArray)) f.kind Bo runUnderlying100 runUnderlying3 zeroValue98 hms10 ((Af (fun e => hq21 e.symm)).trans ((Af (fun e => hq22 e.symm)).trans ((Af (fun e => hq36 e.symm)).trans ((Af (fun e => hq38 e.symm)).trans ((Af (fun e => hq40 e.symm)).trans (Bv hq42.symm))))))) (k := ?_)
  refine jB ?_
  refine Bh (args := [_]) (Aa call89) func89 ntmps89 ?_
  refine Ez ?_
  refine Y8 ?_
  refine Ci 1 rfl z6 Mw (k := ?_)
  refine Ci 2 rfl z6 (Al Hn) (k := ?_)
  refine Ci 3 rfl z6 V0 (k := ?_)
  refine Y9 ?_
  refine Ci 6 rfl z6 (Al Zk) (k := ?_)
  refine Ci 7 rfl z6 (Al Sh) (k := ?_)
  refine Ci 8 rfl z6 (Bb isAgg3) (k := ?_)
  refine Bn [9, 13] z6 rfl (List.forall_mem_cons.2 ⟨?_, (List.forall_mem_cons.2 ⟨?_, nofun⟩)⟩)
  ·skip
   refine AN5 ?_
   rintro w1_885 e1_885 w2_885 hw1_885 ⟨a1_885, c1_885, B_885, he_885, hf_885, hs1_885, hl1_885⟩
   refine ⟨_, _, _, he_885, hf_885, rfl, ?_⟩
   refine rJ ?_
   refine Bn [13] z6 rfl (List.forall_mem_cons.2 ⟨?_, nofun⟩)
   ·skip
    refine Hp rfl Ae A4 (k := fun r1028 hr1028 => ?_)
    refine Bn [14] z6 rfl (List.forall_mem_cons.2 ⟨?_, nofun⟩)
    ·skip
     refine kI (V' := ((r1028, _) :: [])) rfl (Bc (l' := [_, _, _, _, _, _, _]) sizeOf26) (k := ?_)
     refine rI ?_
     refine Jm ?_
     refine cO ?_
     refine Bd rfl (fun hq43 => ?_) (fun hq43 => ?_)
     rotate_left
     ·refine Br ?_
      refine Cc _ (sd (sx (sk (sa (sk (sk (sk sz))))))) ?_
      refine Cx results89 Bk.nil ?_
      refine uG ?_
      refine Yb ?_
      refine Ac results14 (Bk.agg isAgg26 sizeOf26 rfl me rfl (Bk.tmp rfl (Bk.agg isAgg43 sizeOf43 rfl me rfl z1))) (fun w1 hw1 => ?_)
      exact ⟨ax1, s.opn.length, none, 0, Bx2, (rq ((((((((((((hF.f hq1).f hq4).neg hq8).neg hq9).neg hq12).neg hq21).neg hq22).neg hq36).neg hq38).neg hq40).pos hq42).neg hq43)), (Aq (L := Bx2) (hw1.perm (qb (qb (qb q0)))) rfl.symm), (by rw [((((((((((((hF.f hq1).f hq4).neg hq8).neg hq9).neg hq12).neg hq21).neg hq22).neg hq36).neg hq38).neg hq40).pos hq42).neg hq43).eq]; exact (hox2.slb Au)), (rn ((((((((((((hF.f hq1).f hq4).neg hq8).neg hq9).neg hq12).neg hq21).neg hq22).neg hq36).neg hq38).neg hq40).pos hq42).neg hq43)), (by rw [((((((((((((hF.f hq1).f hq4).neg hq8).neg hq9).neg hq12).neg hq21).neg hq22).neg hq36).neg hq38).neg hq40).pos hq42).neg hq43).eq]; first | exact lb | (rw [Ak z8]; omega)), (by rw [((((((((((((hF.f hq1).f hq4).neg hq8).neg hq9).neg hq12).neg hq21).neg hq22).neg hq36).neg hq38).neg hq40).pos hq42).neg hq43).eq]; first | exact lb | (rw [Ak z8]; omega))⟩
     refine Z3 ?_
     refine fM ?_
     refine Zr ?_
     refine Z98 ?_
     refine El _ (sd (sa (sk (sa (sk (sk (sk sz))))))) ?_
     refine B8 ?_
     refine lT ?_
     refine Aj Ae tY (k := fun r1088 hr1088 => ?_)
     refine Jm ?_
     refine iF ?_
     refine mD ?_
     refine Zs ?_
     refine cI ?_
     refine iP ?_
     refine Ef ?_
     refine Cc _ (sd (sa (sk (sa (sk (sk (sk sz))))))) ?_
     refine mB ?_
     refine Cx results89 Bk.nil ?_
     refine Jk ?_
     refine AK5 ?_
     refine Yb ?_
     refine Ac results14 (Bk.agg isAgg26 sizeOf26 rfl me rfl (Bk.tmp rfl (Bk.agg isAgg43 sizeOf43 rfl me rfl z1))) (fun w1 hw1 => ?_)
     exact ⟨a1_885, c1_885, none, 0, B_885, (rq ((((((((((((hF.f hq1).f hq4).neg hq8).neg hq9).neg hq12).neg hq21).neg hq22).neg hq36).neg hq38).neg hq40).pos hq42).pos hq43)), (Aq (L := B_885) (hw1.perm (qb (qb q0))) rfl.symm), (by rw [((((((((((((hF.f hq1).f hq4).neg hq8).neg hq9).neg hq12).neg hq21).neg hq22).neg hq36).neg hq38).neg hq40).pos hq42).pos hq43).eq]; exact (hs1_885.mono S0)), (rn ((((((((((((hF.f hq1).f hq4).neg hq8).neg hq9).neg hq12).neg hq21).neg hq22).neg hq36).neg hq38).neg hq40).pos hq42).pos hq43)), (by rw [((((((((((((hF.f hq1).f hq4).neg hq8).neg hq9).neg hq12).neg hq21).neg hq22).neg hq36).neg hq38).neg hq40).pos hq42).pos hq43).eq]; first | exact lb | (rw [Ak z8]; omega)), (by rw [((((((((((((hF.f hq1).f hq4).neg hq8).neg hq9).neg hq12).neg hq21).neg hq22).neg hq36).neg hq38).neg hq40).pos hq42).pos hq43).eq]; first | exact lb | (rw [Ak z8]; omega))⟩
  ·skip
   refine Hp rfl Ae A4 (k := fun r1028 hr1028 => ?_)
   refine Bn [9] z6 rfl (List.forall_mem_cons.2 ⟨?_, nofun⟩)
   ·skip
    refine AN5 ?_
    rintro w1_885 e1_885 w2_885 hw1_885 ⟨a1_885, c1_885, B_885, he_885, hf_885, hs1_885, hl1_885⟩
    refine ⟨_, _, _, he_885, hf_885, rfl, ?_⟩
    refine rJ ?_
    refine Bn [14] z6 rfl (List.forall_mem_cons.2 ⟨?_, nofun⟩)
    ·skip
     refine kI (V' := ((r1028, _) :: [])) rfl (Bc (l' := [_, _, _, _, _, _, _]) sizeOf26) (k := ?_)
     refine rI ?_
     refine Jm ?_
     refine cO ?_
     refine Bd rfl (fun hq44 => ?_) (fun hq44 => ?_)
     rotate_left
     ·refine Br ?_
      refine Cc _ (sd (sx (sk (sa (sk (sk (sk sz))))))) ?_
      refine Cx results89 Bk.nil ?_
      refine uG ?_
      refine Yb ?_
      refine Ac results14 (Bk.agg isAgg26 sizeOf26 rfl me rfl (Bk.tmp rfl (Bk.agg isAgg43 sizeOf43 rfl me rfl z1))) (fun w1 hw1 => ?_)
      exact ⟨ax1, s.opn.length, none, 0, Bx2, (rq ((((((((((((hF.f hq1).f hq4).neg hq8).neg hq9).neg hq12).neg hq21).neg hq22).neg hq36).neg hq38).neg hq40).pos hq42).neg hq44)), (Aq (L := Bx2) (hw1.perm (qb (qb (qb q0)))) rfl.symm), (by rw [((((((((((((hF.f hq1).f hq4).neg hq8).neg hq9).neg hq12).neg hq21).neg hq22).neg hq36).neg hq38).neg hq40).pos hq42).neg hq44).eq]; exact (hox2.slb Au)), (rn ((((((((((((hF.f hq1).f hq4).neg hq8).neg hq9).neg hq12).neg hq21).neg hq22).neg hq36).neg hq38).neg hq40).pos hq42).neg hq44)), (by rw [((((((((((((hF.f hq1).f hq4).neg hq8).neg hq9).neg hq12).neg hq21).neg hq22).neg hq36).neg hq38).neg hq40).pos hq42).neg hq44).eq]; first | exact lb | (rw [Ak z8]; omega)), (by rw [((((((((((((hF.f hq1).f hq4).neg hq8).neg hq9).neg hq12).neg hq21).neg hq22).neg hq36).neg hq38).neg hq40).pos hq42).neg hq44).eq]; first | exact lb | (rw [Ak z8]; omega))⟩
     refine Z3 ?_
     refine fM ?_
     refine Zr ?_
     refine Z98 ?_
     refine El _ (sd (sa (sk (sa (sk (sk (sk sz))))))) ?_
     refine B8 ?_
     refine lT ?_
     refine Aj Ae tY (k := fun r1088 hr1088 => ?_)
     refine Jm ?_
     refine iF ?_
     refine mD ?_
     refine Zs ?_
     refine cI ?_
     refine iP ?_
     refine Ef ?_
     refine Cc _ (sd (sa (sk (sa (sk (sk (sk sz))))))) ?_
     refine mB ?_
     refine Cx results89 Bk.nil ?_
     refine Jk ?_
     refine AK5 ?_
     refine Yb ?_
     refine Ac results14 (Bk.agg isAgg26 sizeOf26 rfl me rfl (Bk.tmp rfl (Bk.agg isAgg43 sizeOf43 rfl me rfl z1))) (fun w1 hw1 => ?_)
     exact ⟨a1_885, c1_885, none, 0, B_885, (rq ((((((((((((hF.f hq1).f hq4).neg hq8).neg hq9).neg hq12).neg hq21).neg hq22).neg hq36).neg hq38).neg hq40).pos hq42).pos hq44)), (Aq (L := B_885) (hw1.perm (qb (qb q0))) rfl.symm), (by rw [((((((((((((hF.f hq1).f hq4).neg hq8).neg hq9).neg hq12).neg hq21).neg hq22).neg hq36).neg hq38).neg hq40).pos hq42).pos hq44).eq]; exact (hs1_885.mono S0)), (rn ((((((((((((hF.f hq1).f hq4).neg hq8).neg hq9).neg hq12).neg hq21).neg hq22).neg hq36).neg hq38).neg hq40).pos hq42).pos hq44)), (by rw [((((((((((((hF.f hq1).f hq4).neg hq8).neg hq9).neg hq12).neg hq21).neg hq22).neg hq36).neg hq38).neg hq40).pos hq42).pos hq44).eq]; first | exact lb | (rw [Ak z8]; omega)), (by rw [((((((((((((hF.f hq1).f hq4).neg hq8).neg hq9).neg hq12).neg hq21).neg hq22).neg hq36).neg hq38).neg hq40).pos hq42).pos hq44).eq]; first | exact lb | (rw [Ak z8]; omega))⟩
 refine Ay (Cy (l := ([(8, (Value.func (.func 82) [].toArray [].toArray)), (3, (Value.func (.func 85) [].toArray [].toArray)), (4, (Value.func (.func 86) [].toArray [].toArray)), (5, (Value.func (.func 87) [].toArray [].toArray)), (6, (Value.func (.func 88) [].toArray [].toArray)), (7, (Value.func (.func 89) [].toArray [].toArray))] : List (Int × Value))) (v := (Value.func (.func 85) [].toArray [].toArray)) f.kind Bo runUnderlying100 runUnderlying3 zeroValue98 hms10 ((Af (fun e => hq21 e.symm)).trans (Bv hq22.symm))) (k := ?_)
 refine jB ?_
 refine Bh (args := [_]) (Aa call85) func85 ntmps85 ?_
 refine Ez ?_
 refine Ez ?_
 refine Dw mixed 10 [(true, 0), (true, 1), (true, 2), (true, 3), (true, 4), (true, 5), (true, 6), (true, 7), (true, 8), (false, 9)] z6 ?_
 refine uN ?_
 refine C1 ?_
 refine lU ?_
 refine Dc rfl (fun hq23 => ?_) (fun hq23 => ?_)
 ·refine Bw ?_
  refine Lq ?_
  refine fH ?_
  refine eQ ?_
  refine Fa ?_
  refine Av results85 Bk.nil ?_
  refine fI ?_
  refine Ac results14 (Bk.agg isAgg26 sizeOf26 rfl me rfl (Bk.tmp rfl (Bk.agg isAgg43 sizeOf43 rfl me rfl z1))) (fun w1 hw1 => ?_)
  exact ⟨none, 0, none, 0, [], (rq ((((((((hF.f hq1).f hq4).neg hq8).neg hq9).neg hq12).neg hq21).pos hq22).t hq23)), (hw1.fresh_out.sub Mt), (rn ((((((((hF.f hq1).f hq4).neg hq8).neg hq9).neg hq12).neg hq21).pos hq22).t hq23)), (rn ((((((((hF.f hq1).f hq4).neg hq8).neg hq9).neg hq12).neg hq21).pos hq22).t hq23)), (by rw [((((((((hF.f hq1).f hq4).neg hq8).neg hq9).neg hq12).neg hq21).pos hq22).t hq23).eq]; first | exact lb | (rw [Ak z8]; omega)), (by rw [((((((((hF.f hq1).f hq4).neg hq8).neg hq9).neg hq12).neg hq21).pos hq22).t hq23).eq]; first | exact lb | (rw [Ak z8]; omega))⟩
 refine Qd ?_
 refine Z3 ?_
 refine Bh (args := [_]) (Aa call136) func136 ntmps136 ?_
 refine Z2 ?_
 refine Aj Ae Zl (k := fun r361 hr361 => ?_)
 refine Jj ?_
 refine fV (σ1 := List Ib) (σ2 := Option Addr) (σ3 := Nat) (σ4 := Am) (σ5 := List En) (σ6 := Option Addr) (σ7 := Nat) (σ8 := Am) (σ9 := Nat) (fun x_6 x_6a x_6c x_6B x_7 x_7a x_7c x_7B r642 => (x_7B ++ (x_6B ++ ((r642, oc [(vi ((Ct r s.name).1.handle.slot)), (vi ((Ct r s.name).1.handle.gen)), (vt ((Ct r s.name).1.name)), (vi ((Ct r s.name).1.state)), (vi ((Ct r s.name).1.version)), (vs x_6a x_6.length x_6c), (vs x_7a x_7.length x_7c), (vi ((Ct r s.name).1.deadline))] 50) :: ((r361, oc [(vi 0), (vi 0), (vt ([] : Ai)), (vi 0), (vi 0), (vs none 0 0), (vs none 0 0), (vi 0)] 50) :: ((r359, Obj.map em10 km10) :: (Bx2 ++ ((r6, oc [(vi s.phase), (vt s.name), (vi s.handle.slot), (vi s.handle.gen), (vi s.a), (vi s.b), (vs ax1 s.opn.length s.opn.length), (vi f.kind), (vi f.stream), (vt f.data), (vs r_Sg_a r.slots.gens.length r_Sg_c), (vs r_Su_a r.slots.used.length r_Su_c), (vs r_Sf_a r.slots.free.length r_Sf_c), (vs r_l_a r.l.length r_l_c), (vi r.seq), (vi now), (vs none 0 0), (vi 0), (vi 0), (vt ([] : Ai)), (vi 0), (vi 0), (vi 0)] 96) :: ((r5, oc [(vi 0), (vi 0), (vt ([] : Ai)), (vi 0), (vi 0), (vi 0)] 43) :: ((r4, oc [(vi 0), (vt ([] : Ai)), (vi 0), (vi 0), (vi 0), (vi 0), (vs none 0 0)] 26) :: [])))))))))) (fun x_6 x_6a x_6c x_6B x_7 x_7a x_7c x_7B r642 => [(0, (Value.pointer (some ⟨r6, 0, none⟩))), (2, (Value.pointer (some ⟨r361, 0, none⟩))), (3, (Value.bool false)), (4, (Value.pointer (some ⟨r642, 0, none⟩))), (5, (Value.bool ((Ct r s.name).2)))]) (fun x_6 x_6a x_6c x_6B x_7 x_7a x_7c x_7B r642 => Is (Is.xr2 ((((((((hF.f hq1).f hq4).neg hq8).neg hq9).neg hq12).neg hq21).pos hq22).f hq23)) (x_6, x_7) ∧ Bi Nk 5 84 x_6a x_6c x_6B x_6 ∧ Bi Jh 4 112 x_7a x_7c x_7B x_7 ∧ x_6.length ≤ 1000 ∧ x_7.length ≤ 1000) ?_ ?_
 ·skip
  refine Y8 ?_
  refine Ci 1 rfl z6 Mw (k := ?_)
  refine Ci 2 rfl z6 (Al qB) (k := ?_)
  refine Ci 3 rfl z6 (Bq isAgg34 sizeOf34) (k := ?_)
  refine Y9 ?_
  refine Ci 6 rfl z6 (Al Hn) (k := ?_)
  refine Ci 7 rfl z6 (Al Qa) (k := ?_)
  refine Ci 8 rfl z6 (Bb isAgg9) (k := ?_)
  refine Bn [9, 13] z6 rfl (List.forall_mem_cons.2 ⟨?_, (List.forall_mem_cons.2 ⟨?_, nofun⟩)⟩)
  ·skip
   refine K3 ?_
   rintro w1_541 e1_541 w2_541 hw1_541 ⟨a1_541, c1_541, a2_541, c2_541, B1_541, B2_541, he_541, hf_541, ho1_541, ho2_541, hl1_541, hl2_541⟩
   refine ⟨_, _, _, he_541, hf_541, (nA rfl).symm, ?_⟩
   refine rJ ?_
   refine Bn [13] z6 rfl (List.forall_mem_cons.2 ⟨?_, nofun⟩)
   ·skip
    refine Hp rfl Ae Zl (k := fun r642 hr642 => ?_)
    refine Bn [14] z6 rfl (List.forall_mem_cons.2 ⟨?_, nofun⟩)
    ·skip
     refine kI (V' := ((r642, _) :: [])) rfl S3 (k := ?_)
     refine rI ?_
     refine Z91 ?_
     exact Hu ((Ct r s.name).1.rules) a1_541 c1_541 B1_541 ((Ct r s.name).1.creds) a2_541 c2_541 B2_541 r642 ⟨(Is.refl (Is.xr2 ((((((((hF.f hq1).f hq4).neg hq8).neg hq9).neg hq12).neg hq21).pos hq22).f hq23))), ho1_541, ho2_541, S8, S8⟩ se (List.Perm.refl _)
  ·skip
   refine Hp rfl Ae Zl (k := fun r642 hr642 => ?_)
   refine Bn [9] z6 rfl (List.forall_mem_cons.2 ⟨?_, nofun⟩)
   ·skip
    refine K3 ?_
    rintro w1_541 e1_541 w2_541 hw1_541 ⟨a1_541, c1_541, a2_541, c2_541, B1_541, B2_541, he_541, hf_541, ho1_541, ho2_541, hl1_541, hl2_541⟩
    refine ⟨_, _, _, he_541, hf_541, (nA rfl).symm, ?_⟩
    refine rJ ?_
    refine Bn [14] z6 rfl (List.forall_mem_cons.2 ⟨?_, nofun⟩)
    ·skip
     refine kI (V' := ((r642, _) :: [])) rfl S3 (k := ?_)
     refine rI ?_
     refine Z91 ?_
     exact Hu ((Ct r s.name).1.rules) a1_541 c1_541 B1_541 ((Ct r s.name).1.creds) a2_541 c2_541 B2_541 r642 ⟨(Is.refl (Is.xr2 ((((((((hF.f hq1).f hq4).neg hq8).neg hq9).neg hq12).neg hq21).pos hq22).f hq23))), ho1_541, ho2_541, S8, S8⟩ se (List.Perm.refl _)
 rintro x_6 x_6a x_6c x_6B x_7 x_7a x_7c x_7B r642 ⟨hJ8, hx_6, hx_7, hi9, hi10⟩
 refine Gv ?_
 refine Ez ?_
 refine AJ9 ?_
 refine Mp ?_
 refine Jz 21 rfl (fun hq24 => ?_) (fun hq24 => ?_)
 rotate_left
 ·refine Bl 3 rfl ?_
  refine eR ?_
  refine Bl 16 rfl ?_
  refine Ay Du (k := ?_)
  refine D1 ?_
  refine jA ?_
  refine iC ?_
  refine Zp ?_
  refine Aj Ae Zl (k := fun r733 hr733 => ?_)
  refine Aj Ae S6 (k := fun r734 hr734 => ?_)
  refine C7 ?_
  refine G0 ?_
  refine Lq ?_
  refine uV ?_
  refine C0 ?_
  refine Zp ?_
  refine Aj Ae z85 (k := fun r735 hr735 => ?_)
  refine Aj Ae (Bz (l := [_]) zeroValue44) (k := fun r736 hr736 => ?_)
  refine D2 ?_
  refine Z0 ?_
  refine Vz ?_
  refine Jj ?_
  refine Vz ?_
  refine Qi ?_
  refine Wf ?_
  refine Aj Ae z68 (k := fun r737 hr737 => ?_)
  refine E9 ?_
  refine vP ?_
  refine E5 ?_
  refine Jn ?_
  refine H8 ?_
  refine Ag 2 rfl ?_
  refine Lr ?_
  refine wA ?_
  refine lX ?_
  refine Zy ?_
  refine Gf Ae cE (k := fun r738 hr738 => ?_)
  refine Cn ([(Frame.mk 7 f.stream ([] : Ai))] : List Frame) (List.nil_append _) Hq underlying39 Az Bi.nil (List.Perm.refl _) (Ch.lit (xs := ([(Frame.mk 7 f.stream ([] : Ai))] : List Frame)) Az) ⟨by omega, by omega⟩ (n := 0) (m := 1) (k := fun ax705 cx705 Bx705 hox705 => ?_)
  refine Zz ?_
  refine Ac results14 (Bk.agg isAgg26 sizeOf26 rfl me rfl (Bk.tmp rfl (Bk.agg isAgg43 sizeOf43 rfl me rfl z1))) (fun w1 hw1 => ?_)
  exact ⟨ax1, s.opn.length, ax705, cx705, (Bx2 ++ Bx705), (rq ((((((((((hF.f hq1).f hq4).neg hq8).neg hq9).neg hq12).neg hq21).pos hq22).f hq23).rn2 hJ8).f hq24)), (Aq (L := (Bx2 ++ Bx705)) (hw1.perm ((qb (qb q0)).trans (qd (qb (qb (qb q0)))))) (nA rfl).symm), (by rw [((((((((((hF.f hq1).f hq4).neg hq8).neg hq9).neg hq12).neg hq21).pos hq22).f hq23).rn2 hJ8).f hq24).eq]; exact (hox2.slb Au)), (by rw [((((((((((hF.f hq1).f hq4).neg hq8).neg hq9).neg hq12).neg hq21).pos hq22).f hq23).rn2 hJ8).f hq24).eq]; exact (hox705.slb Az)), (by rw [((((((((((hF.f hq1).f hq4).neg hq8).neg hq9).neg hq12).neg hq21).pos hq22).f hq23).rn2 hJ8).f hq24).eq]; first | exact lb | (rw [Ak z8]; omega)), (by rw [((((((((((hF.f hq1).f hq4).neg hq8).neg hq9).neg hq12).neg hq21).pos hq22).f hq23).rn2 hJ8).f hq24).eq]; first | exact lb | (rw [Ak z8]; omega))⟩
 refine Bj (Al Sf) (k := ?_)
 refine vO ?_
 refine Tf ?_
 refine Ge 26 rfl (fun hq25 => ?_) (fun hq25 => ?_)
 rotate_left
 ·refine Bl 16 rfl ?_
  refine Ay Du (k := ?_)
  refine D1 ?_
  refine jA ?_
  refine iC ?_
  refine Zp ?_
  refine Aj Ae Zl (k := fun r727 hr727 => ?_)
  refine Aj Ae S6 (k := fun r728 hr728 => ?_)
  refine C7 ?_
  refine G0 ?_
  refine Lq ?_
  refine uV ?_
  refine C0 ?_
  refine Zp ?_
  refine Aj Ae z85 (k := fun r729 hr729 => ?_)
  refine Aj Ae (Bz (l := [_]) zeroValue44) (k := fun r730 hr730 => ?_)
  refine D2 ?_
  refine Z0 ?_
  refine Vz ?_
  refine Jj ?_
  refine Vz ?_
  refine Qi ?_
  refine Wf ?_
  refine Aj Ae z68 (k := fun r731 hr731 => ?_)
  refine E9 ?_
  refine vP ?_
  refine E5 ?_
  refine Jn ?_
  refine H8 ?_
  refine Ag 2 rfl ?_
  refine Lr ?_
  refine wA ?_
  refine lX ?_
  refine Zy ?_
  refine Gf Ae cE (k := fun r732 hr732 => ?_)
  refine Cn ([(Frame.mk 7 f.stream ([] : Ai))] : List Frame) (List.nil_append _) Hq underlying39 Az Bi.nil (List.Perm.refl _) (Ch.lit (xs := ([(Frame.mk 7 f.stream ([] : Ai))] : List Frame)) Az) ⟨by omega, by omega⟩ (n := 0) (m := 1) (k := fun ax704 cx704 Bx704 hox704 => ?_)
  refine Zz ?_
  refine Ac results14 (Bk.agg isAgg26 sizeOf26 rfl me rfl (Bk.tmp rfl (Bk.agg isAgg43 sizeOf43 rfl me rfl z1))) (fun w1 hw1 => ?_)
  exact ⟨ax1, s.opn.length, ax704, cx704, (Bx2 ++ Bx704), (rq (((((((((((hF.f hq1).f hq4).neg hq8).neg hq9).neg hq12).neg hq21).pos hq22).f hq23).rn2 hJ8).t hq24).neg hq25)), (Aq (L := (Bx2 ++ Bx704)) (hw1.perm ((qb (qb q0)).trans (qd (qb (qb (qb q0)))))) (nA rfl).symm), (by rw [(((((((((((hF.f hq1).f hq4).neg hq8).neg hq9).neg hq12).neg hq21).pos hq22).f hq23).rn2 hJ8).t hq24).neg hq25).eq]; exact (hox2.slb Au)), (by rw [(((((((((((hF.f hq1).f hq4).neg hq8).neg hq9).neg hq12).neg hq21).pos hq22).f hq23).rn2 hJ8).t hq24).neg hq25).eq]; exact (hox704.slb Az)), (by rw [(((((((((((hF.f hq1).f hq4).neg hq8).neg hq9).neg hq12).neg hq21).pos hq22).f hq23).rn2 hJ8).t hq24).neg hq25).eq]; first | exact lb | (rw [Ak z8]; omega)), (by rw [(((((((((((hF.f hq1).f hq4).neg hq8).neg hq9).neg hq12).neg hq21).pos hq22).f hq23).rn2 hJ8).t hq24).neg hq25).eq]; first | exact lb | (rw [Ak z8]; omega))⟩
 refine uO ?_
 refine Bj (Al Hn) (k := ?_)
 refine Bj (Al Lj) (k := ?_)
 refine jH ?_
 refine Bj Og (k := ?_)
 refine Pd ?_
 refine Ge 33 rfl (fun hq26 => ?_) (fun hq26 => ?_)
 ·refine Bl 8 rfl ?_
  refine Bj Fx (k := ?_)
  refine Ay Fx (k := ?_)
  refine D1 ?_
  refine jA ?_
  refine iC ?_
  refine Zp ?_
  refine Aj Ae Zl (k := fun r702 hr702 => ?_)
  refine Aj Ae S6 (k := fun r703 hr703 => ?_)
  refine C7 ?_
  refine G0 ?_
  refine Lq ?_
  refine uV ?_
  refine C0 ?_
  refine Zp ?_
  refine Aj Ae z85 (k := fun r704 hr704 => ?_)
  refine Aj Ae (Bz (l := [_]) zeroValue44) (k := fun r705 hr705 => ?_)
  refine D2 ?_
  refine Z0 ?_
  refine Vz ?_
  refine Jj ?_
  refine Vz ?_
  refine Qi ?_
  refine Wf ?_
  refine Aj Ae z68 (k := fun r706 hr706 => ?_)
  refine E9 ?_
  refine vP ?_
  refine E5 ?_
  refine Jn ?_
  refine H8 ?_
  refine An (Bb isAgg44) (k := ?_)
  refine An Gw (k := ?_)
  refine Ry ?_
  refine wA ?_
  refine Sj ?_
  refine Bd rfl (fun hq27 => ?_) (fun hq27 => ?_)
  ·refine Bw ?_
   refine Lf ?_
   refine Zy ?_
   refine Gf Ae cE (k := fun r707 hr707 => ?_)
   refine Cn ([(Frame.mk 7 f.stream ([] : Ai))] : List Frame) (List.nil_append _) Hq underlying39 Az Bi.nil (List.Perm.refl _) (Ch.lit (xs := ([(Frame.mk 7 f.stream ([] : Ai))] : List Frame)) Az) ⟨by omega, by omega⟩ (n := 0) (m := 1) (k := fun ax689 cx689 Bx689 hox689 => ?_)
   refine Zz ?_
   refine Ac results14 (Bk.agg isAgg26 sizeOf26 rfl me rfl (Bk.tmp rfl (Bk.agg isAgg43 sizeOf43 rfl me rfl z1))) (fun w1 hw1 => ?_)
   exact ⟨ax1, s.opn.length, ax689, cx689, (Bx2 ++ Bx689), (rq (((((((((((((hF.f hq1).f hq4).neg hq8).neg hq9).neg hq12).neg hq21).pos hq22).f hq23).rn2 hJ8).t hq24).pos hq25).pos hq26).pos hq27)), (Aq (L := (Bx2 ++ Bx689)) (hw1.perm ((qb (qb q0)).trans (qd (qb (qb (qb q0)))))) (nA rfl).symm), (by rw [(((((((((((((hF.f hq1).f hq4).neg hq8).neg hq9).neg hq12).neg hq21).pos hq22).f hq23).rn2 hJ8).t hq24).pos hq25).pos hq26).pos hq27).eq]; exact (hox2.slb Au)), (by rw [(((((((((((((hF.f hq1).f hq4).neg hq8).neg hq9).neg hq12).neg hq21).pos hq22).f hq23).rn2 hJ8).t hq24).pos hq25).pos hq26).pos hq27).eq]; exact (hox689.slb Az)), (by rw [(((((((((((((hF.f hq1).f hq4).neg hq8).neg hq9).neg hq12).neg hq21).pos hq22).f hq23).rn2 hJ8).t hq24).pos hq25).pos hq26).pos hq27).eq]; first | exact lb | (rw [Ak z8]; omega)), (by rw [(((((((((((((hF.f hq1).f hq4).neg hq8).neg hq9).neg hq12).neg hq21).pos hq22).f hq23).rn2 hJ8).t hq24).pos hq25).pos hq26).pos hq27).eq]; first | exact lb | (rw [Ak z8]; omega))⟩
  refine AB0 ?_
  refine iQ ?_
  refine Bh (args := [_, _]) (Aa call137) func137 ntmps137 ?_
  refine Jn ?_
  refine Ad (Al Vq) (k := ?_)
  refine Ad (Bb isAgg47) (k := ?_)
  refine AK3 ?_
  have had_50070 := Vu x_6 ((Cw f.data).1)
  refine fG ?_
  refine Ew ?_
  refine Cs 15 rfl (fun hq28 => ?_) (fun hq28 => ?_)
  rotate_left
  ·refine Ag 2 rfl ?_
   refine Lr ?_
   refine Av results137 z1 ?_
   refine lX ?_
   refine Zy ?_
   refine Gf Ae cE (k := fun r713 hr713 => ?_)
   refine Cn ([(Frame.mk 7 f.stream ([] : Ai))] : List Frame) (List.nil_append _) Hq underlying39 Az Bi.nil (List.Perm.refl _) (Ch.lit (xs := ([(Frame.mk 7 f.stream ([] : Ai))] : List Frame)) Az) ⟨by omega, by omega⟩ (n := 0) (m := 1) (k := fun ax695 cx695 Bx695 hox695 => ?_)
   refine Zz ?_
   refine Ac results14 (Bk.agg isAgg26 sizeOf26 rfl me rfl (Bk.tmp rfl (Bk.agg isAgg43 sizeOf43 rfl me rfl z1))) (fun w1 hw1 => ?_)
   exact ⟨ax1, s.opn.length, ax695, cx695, (Bx2 ++ Bx695), (rq ((((((((((((((hF.f hq1).f hq4).neg hq8).neg hq9).neg hq12).neg hq21).pos hq22).f hq23).rn2 hJ8).t hq24).pos hq25).pos hq26).neg hq27).f hq28)), (Aq (L := (Bx2 ++ Bx695)) (hw1.perm ((qb (qb q0)).trans (qd (qb (qb (qb q0)))))) (nA rfl).symm), (by rw [((((((((((((((hF.f hq1).f hq4).neg hq8).neg hq9).neg hq12).neg hq21).pos hq22).f hq23).rn2 hJ8).t hq24).pos hq25).pos hq26).neg hq27).f hq28).eq]; exact (hox2.slb Au)), (by rw [((((((((((((((hF.f hq1).f hq4).neg hq8).neg hq9).neg hq12).neg hq21).pos hq22).f hq23).rn2 hJ8).t hq24).pos hq25).pos hq26).neg hq27).f hq28).eq]; exact (hox695.slb Az)), (by rw [((((((((((((((hF.f hq1).f hq4).neg hq8).neg hq9).neg hq12).neg hq21).pos hq22).f hq23).rn2 hJ8).t hq24).pos hq25).pos hq26).neg hq27).f hq28).eq]; first | exact lb | (rw [Ak z8]; omega)), (by rw [((((((((((((((hF.f hq1).f hq4).neg hq8).neg hq9).neg hq12).neg hq21).pos hq22).f hq23).rn2 hJ8).t hq24).pos hq25).pos hq26).neg hq27).f hq28).eq]; first | exact lb | (rw [Ak z8]; omega))⟩
  refine Zu ?_
  refine Ry ?_
  refine Av results137 z1 ?_
  refine Sj ?_
  refine Bd rfl (fun hq29 => ?_) (fun hq29 => ?_)
  ·refine Bw ?_
   refine Lf ?_
   refine Zy ?_
   refine Gf Ae cE (k := fun r708 hr708 => ?_)
   refine Cn ([(Frame.mk 7 f.stream ([] : Ai))] : List Frame) (List.nil_append _) Hq underlying39 Az Bi.nil (List.Perm.refl _) (Ch.lit (xs := ([(Frame.mk 7 f.stream ([] : Ai))] : List Frame)) Az) ⟨by omega, by omega⟩ (n := 0) (m := 1) (k := fun ax690 cx690 Bx690 hox690 => ?_)
   refine Zz ?_
   refine Ac results14 (Bk.agg isAgg26 sizeOf26 rfl me rfl (Bk.tmp rfl (Bk.agg isAgg43 sizeOf43 rfl me rfl z1))) (fun w1 hw1 => ?_)
   exact ⟨ax1, s.opn.length, ax690, cx690, (Bx2 ++ Bx690), (rq (((((((((((((((hF.f hq1).f hq4).neg hq8).neg hq9).neg hq12).neg hq21).pos hq22).f hq23).rn2 hJ8).t hq24).pos hq25).pos hq26).neg hq27).t hq28).pos hq29)), (Aq (L := (Bx2 ++ Bx690)) (hw1.perm ((qb (qb q0)).trans (qd (qb (qb (qb q0)))))) (nA rfl).symm), (by rw [(((((((((((((((hF.f hq1).f hq4).neg hq8).neg hq9).neg hq12).neg hq21).pos hq22).f hq23).rn2 hJ8).t hq24).pos hq25).pos hq26).neg hq27).t hq28).pos hq29).eq]; exact (hox2.slb Au)), (by rw [(((((((((((((((hF.f hq1).f hq4).neg hq8).neg hq9).neg hq12).neg hq21).pos hq22).f hq23).rn2 hJ8).t hq24).pos hq25).pos hq26).neg hq27).t hq28).pos hq29).eq]; exact (hox690.slb Az)), (by rw [(((((((((((((((hF.f hq1).f hq4).neg hq8).neg hq9).neg hq12).neg hq21).pos hq22).f hq23).rn2 hJ8).t hq24).pos hq25).pos hq26).neg hq27).t hq28).pos hq29).eq]; first | exact lb | (rw [Ak z8]; omega)), (by rw [(((((((((((((((hF.f hq1).f hq4).neg hq8).neg hq9).neg hq12).neg hq21).pos hq22).f hq23).rn2 hJ8).t hq24).pos hq25).pos hq26).neg hq27).t hq28).pos hq29).eq]; first | exact lb | (rw [Ak z8]; omega))⟩
  refine AB1 ?_
  refine iQ ?_
  refine Bh (args := [_]) (Aa call140) func140 ntmps140 ?_
  refine Mq ?_
  refine vT ?_
  refine Tz ?_
  refine Ad Mx (k := ?_)
  refine Z5 ?_
  refine Av results140 z1 ?_
  refine Sj ?_
  refine Bd rfl (fun hq30 => ?_) (fun hq30 => ?_)
  ·refine Bw ?_
   refine Lf ?_
   refine Zy ?_
   refine Gf Ae cE (k := fun r709 hr709 => ?_)
   refine Cn ([(Frame.mk 7 f.stream ([] : Ai))] : List Frame) (List.nil_append _) Hq underlying39 Az Bi.nil (List.Perm.refl _) (Ch.lit (xs := ([(Frame.mk 7 f.stream ([] : Ai))] : List Frame)) Az) ⟨by omega, by omega⟩ (n := 0) (m := 1) (k := fun ax691 cx691 Bx691 hox691 => ?_)
   refine Zz ?_
   refine Ac results14 (Bk.agg isAgg26 sizeOf26 rfl me rfl (Bk.tmp rfl (Bk.agg isAgg43 sizeOf43 rfl me rfl z1))) (fun w1 hw1 => ?_)
   exact ⟨ax1, s.opn.length, ax691, cx691, (Bx2 ++ Bx691), (rq ((((((((((((((((hF.f hq1).f hq4).neg hq8).neg hq9).neg hq12).neg hq21).pos hq22).f hq23).rn2 hJ8).t hq24).pos hq25).pos hq26).neg hq27).t hq28).neg hq29).pos hq30)), (Aq (L := (Bx2 ++ Bx691)) (hw1.perm ((qb (qb q0)).trans (qd (qb (qb (qb q0)))))) (nA rfl).symm), (by rw [((((((((((((((((hF.f hq1).f hq4).neg hq8).neg hq9).neg hq12).neg hq21).pos hq22).f hq23).rn2 hJ8).t hq24).pos hq25).pos hq26).neg hq27).t hq28).neg hq29).pos hq30).eq]; exact (hox2.slb Au)), (by rw [((((((((((((((((hF.f hq1).f hq4).neg hq8).neg hq9).neg hq12).neg hq21).pos hq22).f hq23).rn2 hJ8).t hq24).pos hq25).pos hq26).neg hq27).t hq28).neg hq29).pos hq30).eq]; exact (hox691.slb Az)), (by rw [((((((((((((((((hF.f hq1).f hq4).neg hq8).neg hq9).neg hq12).neg hq21).pos hq22).f hq23).rn2 hJ8).t hq24).pos hq25).pos hq26).neg hq27).t hq28).neg hq29).pos hq30).eq]; first | exact lb | (rw [Ak z8]; omega)), (by rw [((((((((((((((((hF.f hq1).f hq4).neg hq8).neg hq9).neg hq12).neg hq21).pos hq22).f hq23).rn2 hJ8).t hq24).pos hq25).pos hq26).neg hq27).t hq28).neg hq29).pos hq30).eq]; first | exact lb | (rw [Ak z8]; omega))⟩
  refine Wb ?_
  refine V5 ?_
  refine Pa ?_
  refine V2 ?_
  refine Sv ?_
  refine Zr ?_
  refine F2 ?_
  refine J4 ?_
  refine Uz (n := s.opn.length) (x0 := default) Ev underlying24 Au rfl ⟨by omega, by omega⟩ (k := fun ax692 Bx692 hox692 => ?_)
  refine Ew ?_
  refine Ys (n := s.opn.length) Ev underlying24 Au hox692 q0 (hox2.slj Au) Hs rfl (kk := fun Bx693 hox693 => ?_)
  refine I5 ?_
  refine vT ?_
  refine uQ ?_
  refine mF ?_
  refine G5 ?_
  refine Z4 ?_
  refine B6 ?_
  refine Tm (Aa call141) (fun w1 hw1 => bY w1 (x := s.opn) (target := f.stream) (h_x := (hox693.slj Au) w1 hw1) (n_x := dI)) (k := ?_)
  have hbs_29492 := bW s.opn f.stream
  refine AK9 ?_
  refine lR ?_
  refine G5 ?_
  refine W7 ?_
  refine Gf Ae Xe (k := fun r710 hr710 => ?_)
  refine AO7 (Aa call142) (fun w1 hw1 => Xs w1 (s := s.opn) (i := ((Hy s.opn f.stream).1)) (x := f.stream) (o_s := hox693) (b_s := fun p hp => hw1.own p (by first | exact hp | (simp [hp]; done))) (n_s := dI) (h_v := (Ch.lit (xs := ([f.stream] : List Int)) Au) w1 hw1.right) (d_v := (hw1.notIn (List.Perm.trans R9 (show List.Perm (Bx693 ++ ((r710, oc [(vi f.stream)] 3) :: ((r704, oc [(vi ((Cw f.data).1.addr)), (vi ((Cw f.data).1.port))] 41) :: ((r359, Obj.map em10 km10) :: (Bx2 ++ ((r6, oc [(vi s.phase), (vt s.name), (vi s.handle.slot), (vi s.handle.gen), (vi s.a), (vi s.b), (vs ax692 s.opn.length s.opn.length), (vi f.kind), (vi f.stream), (vt f.data), (vs r_Sg_a r.slots.gens.length r_Sg_c), (vs r_Su_a r.slots.used.length r_Su_c), (vs r_Sf_a r.slots.free.length r_Sf_c), (vs r_l_a r.l.length r_l_c), (vi r.seq), (vi now), (vs none 0 0), (vi 0), (vi 0), (vt ([] : Ai)), (vi 0), (vi 0), (vi 0)] 96) :: ((r5, oc [(vi 0), (vi 0), (vt ([] : Ai)), (vi 0), (vi 0), (vi 0)] 43) :: ((r4, oc [(vi 0), (vt ([] : Ai)), (vi 0), (vi 0), (vi 0), (vi 0), (vs none 0 0)] 26) :: [])))))))) ((r710, oc [(vi f.stream)] 3) :: (Bx693 ++ ((r704, oc [(vi ((Cw f.data).1.addr)), (vi ((Cw f.data).1.port))] 41) :: ((r359, Obj.map em10 km10) :: (Bx2 ++ ((r6, oc [(vi s.phase), (vt s.name), (vi s.handle.slot), (vi s.handle.gen), (vi s.a), (vi s.b), (vs ax692 s.opn.length s.opn.length), (vi f.kind), (vi f.stream), (vt f.data), (vs r_Sg_a r.slots.gens.length r_Sg_c), (vs r_Su_a r.slots.used.length r_Su_c), (vs r_Sf_a r.slots.free.length r_Sf_c), (vs r_l_a r.l.length r_l_c), (vi r.seq), (vi now), (vs none 0 0), (vi 0), (vi 0), (vt ([] : Ai)), (vi 0), (vi 0), (vi 0)] 96) :: ((r5, oc [(vi 0), (vi 0), (vt ([] : Ai)), (vi 0), (vi 0), (vi 0)] 43) :: ((r4, oc [(vi 0), (vt ([] : Ai)), (vi 0), (vi 0), (vi 0), (vi 0), (vs none 0 0)] 26) :: [])))))))) from (q0.trans (qc q0)))))) (e_v := ⟨r710, _, _, rfl, hw1.own (r710, oc [(vi f.stream)] 3) Hs, fun hk => (hw1.notIn (List.Perm.trans R9 (show List.Perm (Bx693 ++ ((r710, oc [(vi f.stream)] 3) :: ((r704, oc [(vi ((Cw f.data).1.addr)), (vi ((Cw f.data).1.port))] 41) :: ((r359, Obj.map em10 km10) :: (Bx2 ++ ((r6, oc [(vi s.phase), (vt s.name), (vi s.handle.slot), (vi s.handle.gen), (vi s.a), (vi s.b), (vs ax692 s.opn.length s.opn.length), (vi f.kind), (vi f.stream), (vt f.data), (vs r_Sg_a r.slots.gens.length r_Sg_c), (vs r_Su_a r.slots.used.length r_Su_c), (vs r_Sf_a r.slots.free.length r_Sf_c), (vs r_l_a r.l.length r_l_c), (vi r.seq), (vi now), (vs none 0 0), (vi 0), (vi 0), (vt ([] : Ai)), (vi 0), (vi 0), (vi 0)] 96) :: ((r5, oc [(vi 0), (vi 0), (vt ([] : Ai)), (vi 0), (vi 0), (vi 0)] 43) :: ((r4, oc [(vi 0), (vt ([] : Ai)), (vi 0), (vi 0), (vi 0), (vi 0), (vs none 0 0)] 26) :: [])))))))) ((r710, oc [(vi f.stream)] 3) :: (Bx693 ++ ((r704, oc [(vi ((Cw f.data).1.addr)), (vi ((Cw f.data).1.port))] 41) :: ((r359, Obj.map em10 km10) :: (Bx2 ++ ((r6, oc [(vi s.phase), (vt s.name), (vi s.handle.slot), (vi s.handle.gen), (vi s.a), (vi s.b), (vs ax692 s.opn.length s.opn.length), (vi f.kind), (vi f.stream), (vt f.data), (vs r_Sg_a r.slots.gens.length r_Sg_c), (vs r_Su_a r.slots.used.length r_Su_c), (vs r_Sf_a r.slots.free.length r_Sf_c), (vs r_l_a r.l.length r_l_c), (vi r.seq), (vi now), (vs none 0 0), (vi 0), (vi 0), (vt ([] : Ai)), (vi 0), (vi 0), (vi 0)] 96) :: ((r5, oc [(vi 0), (vi 0), (vt ([] : Ai)), (vi 0), (vi 0), (vi 0)] 43) :: ((r4, oc [(vi 0), (vt ([] : Ai)), (vi 0), (vi 0), (vi 0), (vi 0), (vs none 0 0)] 26) :: [])))))))) from (q0.trans (qc q0))))) r710 hk ⟨r710, 0, none⟩ rfl (List.cons_ne_nil (0 : Nat) []) rfl⟩) (hi := dI)) (k := ?_)
  rintro w1_682 e1_682 w2_682 hw1_682 ⟨a1_682, c1_682, B1_682, he_682, hf_682, ho1_682⟩
  refine ⟨_, (B1_682 ++ []), he_682, ((hw1_682.perm (List.Perm.trans R9 (show List.Perm (Bx693 ++ ((r710, oc [(vi f.stream)] 3) :: ((r704, oc [(vi ((Cw f.data).1.addr)), (vi ((Cw f.data).1.port))] 41) :: ((r359, Obj.map em10 km10) :: (Bx2 ++ ((r6, oc [(vi s.phase), (vt s.name), (vi s.handle.slot), (vi s.handle.gen), (vi s.a), (vi s.b), (vs ax692 s.opn.length s.opn.length), (vi f.kind), (vi f.stream), (vt f.data), (vs r_Sg_a r.slots.gens.length r_Sg_c), (vs r_Su_a r.slots.used.length r_Su_c), (vs r_Sf_a r.slots.free.length r_Sf_c), (vs r_l_a r.l.length r_l_c), (vi r.seq), (vi now), (vs none 0 0), (vi 0), (vi 0), (vt ([] : Ai)), (vi 0), (vi 0), (vi 0)] 96) :: ((r5, oc [(vi 0), (vi 0), (vt ([] : Ai)), (vi 0), (vi 0), (vi 0)] 43) :: ((r4, oc [(vi 0), (vt ([] : Ai)), (vi 0), (vi 0), (vi 0), (vi 0), (vs none 0 0)] 26) :: [])))))))) (Bx693 ++ ((r710, oc [(vi f.stream)] 3) :: ((r704, oc [(vi ((Cw f.data).1.addr)), (vi ((Cw f.data).1.port))] 41) :: ((r359, Obj.map em10 km10) :: (Bx2 ++ ((r6, oc [(vi s.phase), (vt s.name), (vi s.handle.slot), (vi s.handle.gen), (vi s.a), (vi s.b), (vs ax692 s.opn.length s.opn.length), (vi f.kind), (vi f.stream), (vt f.data), (vs r_Sg_a r.slots.gens.length r_Sg_c), (vs r_Su_a r.slots.used.length r_Su_c), (vs r_Sf_a r.slots.free.length r_Sf_c), (vs r_l_a r.l.length r_l_c), (vi r.seq), (vi now), (vs none 0 0), (vi 0), (vi 0), (vt ([] : Ai)), (vi 0), (vi 0), (vi 0)] 96) :: ((r5, oc [(vi 0), (vi 0), (vt ([] : Ai)), (vi 0), (vi 0), (vi 0)] 43) :: ((r4, oc [(vi 0), (vt ([] : Ai)), (vi 0), (vi 0), (vi 0), (vi 0), (vs none 0 0)] 26) :: [])))))))) from (List.Perm.refl _)))).tr hf_682).perm R9, ?_⟩
  refine lP ?_
  refine Ay lL (k := ?_)
  refine eZ ?_
  refine uQ ?_
  refine El _ (sa (sd (sk (sk (sa (sk (sk (sk sz)))))))) ?_
  refine AM5 ?_
  refine Qt ?_
  refine Ew ?_
  refine eY ?_
  refine Gf Ae cE (k := fun r711 hr711 => ?_)
  refine Cn ([(Frame.mk 5 f.stream ((Kf 4096).1))] : List Frame) (List.nil_append _) Hq underlying39 Az Bi.nil (List.Perm.refl _) (Ch.lit (xs := ([(Frame.mk 5 f.stream ((Kf 4096).1))] : List Frame)) Az) ⟨by omega, by omega⟩ (n := 0) (m := 1) (k := fun ax694 cx694 Bx694 hox694 => ?_)
  refine eX ?_
  refine Cc _ (sa (sd (sa (sk (sk (sa (sk (sk (sk sz))))))))) ?_
  refine Cx results134 Bk.nil ?_
  refine Z0 ?_
  refine Lq ?_
  refine mS ?_
  refine jM ?_
  refine lT ?_
  refine Aj Ae tY (k := fun r712 hr712 => ?_)
  refine Jm ?_
  refine iF ?_
  refine mD ?_
  refine Zs ?_
  refine cI ?_
  refine iP ?_
  refine Ef ?_
  refine Cc _ (sd (sa (sa (sk (sk (sa (sk (sk (sk sz))))))))) ?_
  refine mB ?_
  refine Cc _ (sa (sa (sd (sk (sa (sk (sk (sk sz)))))))) ?_
  refine Cx results85 Bk.nil ?_
  refine Jk ?_
  refine AK4 ?_
  refine Yb ?_
  refine Ac results14 (Bk.agg isAgg26 sizeOf26 rfl me rfl (Bk.tmp rfl (Bk.agg isAgg43 sizeOf43 rfl me rfl z1))) (fun w1 hw1 => ?_)
  exact ⟨a1_682, c1_682, ax694, cx694, (B1_682 ++ Bx694), (rq ((((((((((((((((hF.f hq1).f hq4).neg hq8).neg hq9).neg hq12).neg hq21).pos hq22).f hq23).rn2 hJ8).t hq24).pos hq25).pos hq26).neg hq27).t hq28).neg hq29).neg hq30)), (Aq (L := (B1_682 ++ Bx694)) (hw1.perm ((qb (qb q0)).trans (qd (qb (qb q0))))) (nA rfl).symm), (by rw [((((((((((((((((hF.f hq1).f hq4).neg hq8).neg hq9).neg hq12).neg hq21).pos hq22).f hq23).rn2 hJ8).t hq24).pos hq25).pos hq26).neg hq27).t hq28).neg hq29).neg hq30).eq]; exact (ho1_682.slb Au)), (by rw [((((((((((((((((hF.f hq1).f hq4).neg hq8).neg hq9).neg hq12).neg hq21).pos hq22).f hq23).rn2 hJ8).t hq24).pos hq25).pos hq26).neg hq27).t hq28).neg hq29).neg hq30).eq]; exact (hox694.slb Az)), (by rw [((((((((((((((((hF.f hq1).f hq4).neg hq8).neg hq9).neg hq12).neg hq21).pos hq22).f hq23).rn2 hJ8).t hq24).pos hq25).pos hq26).neg hq27).t hq28).neg hq29).neg hq30).eq]; first | exact lb | (rw [Ak z8]; omega)), (by rw [((((((((((((((((hF.f hq1).f hq4).neg hq8).neg hq9).neg hq12).neg hq21).pos hq22).f hq23).rn2 hJ8).t hq24).pos hq25).pos hq26).neg hq27).t hq28).neg hq29).neg hq30).eq]; first | exact lb | (rw [Ak z8]; omega))⟩
 refine Bj (Al Li) (k := ?_)
 refine Bj A7 (k := ?_)
 refine uO ?_
 refine Bj (Al Hn) (k := ?_)
 refine Bj (Al Vt) (k := ?_)
 refine Bj A7 (k := ?_)
 refine Bj (Xh (pP _ _ _ _ _ _)) (k := ?_)
 refine Bj Du (k := ?_)
 refine Ay Fx (k := ?_)
 refine D1 ?_
 refine jA ?_
 refine iC ?_
 refine Zp ?_
 refine Aj Ae Zl (k := fun r714 hr714 => ?_)
 refine Aj Ae S6 (k := fun r715 hr715 => ?_)
 refine C7 ?_
 refine G0 ?_
 refine Lq ?_
 refine uV ?_
 refine C0 ?_
 refine Zp ?_
 refine Aj Ae z85 (k := fun r716 hr716 => ?_)
 refine Aj Ae (Bz (l := [_]) zeroValue44) (k := fun r717 hr717 => ?_)
 refine D2 ?_
 refine Z0 ?_
 refine Vz ?_
 refine Jj ?_
 refine Vz ?_
 refine Qi ?_
 refine Wf ?_
 refine Aj Ae z68 (k := fun r718 hr718 => ?_)
 refine E9 ?_
 refine vP ?_
 refine E5 ?_
 refine Jn ?_
 refine H8 ?_
 refine Aw 4 rfl (fun hq31 => ?_) (fun hq31 => ?_)
 rotate_left
 ·refine Ag 2 rfl ?_
  refine Lr ?_
  refine wA ?_
  refine lX ?_
  refine Zy ?_
  refine Gf Ae cE (k := fun r726 hr726 => ?_)
  refine Cn ([(Frame.mk 7 f.stream ([] : Ai))] : List Frame) (List.nil_append _) Hq underlying39 Az Bi.nil (List.Perm.refl _) (Ch.lit (xs := ([(Frame.mk 7 f.stream ([] : Ai))] : List Frame)) Az) ⟨by omega, by omega⟩ (n := 0) (m := 1) (k := fun ax703 cx703 Bx703 hox703 => ?_)
  refine Zz ?_
  refine Ac results14 (Bk.agg isAgg26 sizeOf26 rfl me rfl (Bk.tmp rfl (Bk.agg isAgg43 sizeOf43 rfl me rfl z1))) (fun w1 hw1 => ?_)
  exact ⟨ax1, s.opn.length, ax703, cx703, (Bx2 ++ Bx703), (rq (((((((((((((hF.f hq1).f hq4).neg hq8).neg hq9).neg hq12).neg hq21).pos hq22).f hq23).rn2 hJ8).t hq24).pos hq25).neg hq26).neg hq31)), (Aq (L := (Bx2 ++ Bx703)) (hw1.perm ((qb (qb q0)).trans (qd (qb (qb (qb q0)))))) (nA rfl).symm), (by rw [(((((((((((((hF.f hq1).f hq4).neg hq8).neg hq9).neg hq12).neg hq21).pos hq22).f hq23).rn2 hJ8).t hq24).pos hq25).neg hq26).neg hq31).eq]; exact (hox2.slb Au)), (by rw [(((((((((((((hF.f hq1).f hq4).neg hq8).neg hq9).neg hq12).neg hq21).pos hq22).f hq23).rn2 hJ8).t hq24).pos hq25).neg hq26).neg hq31).eq]; exact (hox703.slb Az)), (by rw [(((((((((((((hF.f hq1).f hq4).neg hq8).neg hq9).neg hq12).neg hq21).pos hq22).f hq23).rn2 hJ8).t hq24).pos hq25).neg hq26).neg hq31).eq]; first | exact lb | (rw [Ak z8]; omega)), (by rw [(((((((((((((hF.f hq1).f hq4).neg hq8).neg hq9).neg hq12).neg hq21).pos hq22).f hq23).rn2 hJ8).t hq24).pos hq25).neg hq26).neg hq31).eq]; first | exact lb | (rw [Ak z8]; omega))⟩
 refine An (Bb isAgg44) (k := ?_)
 refine An Gw (k := ?_)
 refine Ry ?_
 refine wA ?_
 refine Sj ?_
 refine Bd rfl (fun hq32 => ?_) (fun hq32 => ?_)
 ·refine Bw ?_
  refine Lf ?_
  refine Zy ?_
  refine Gf Ae cE (k := fun r719 hr719 => ?_)
  refine Cn ([(Frame.mk 7 f.stream ([] : Ai))] : List Frame) (List.nil_append _) Hq underlying39 Az Bi.nil (List.Perm.refl _) (Ch.lit (xs := ([(Frame.mk 7 f.stream ([] : Ai))] : List Frame)) Az) ⟨by omega, by omega⟩ (n := 0) (m := 1) (k := fun ax696 cx696 Bx696 hox696 => ?_)
  refine Zz ?_
  refine Ac results14 (Bk.agg isAgg26 sizeOf26 rfl me rfl (Bk.tmp rfl (Bk.agg isAgg43 sizeOf43 rfl me rfl z1))) (fun w1 hw1 => ?_)
  exact ⟨ax1, s.opn.length, ax696, cx696, (Bx2 ++ Bx696), (rq ((((((((((((((hF.f hq1).f hq4).neg hq8).neg hq9).neg hq12).neg hq21).pos hq22).f hq23).rn2 hJ8).t hq24).pos hq25).neg hq26).pos hq31).pos hq32)), (Aq (L := (Bx2 ++ Bx696)) (hw1.perm ((qb (qb q0)).trans (qd (qb (qb (qb q0)))))) (nA rfl).symm), (by rw [((((((((((((((hF.f hq1).f hq4).neg hq8).neg hq9).neg hq12).neg hq21).pos hq22).f hq23).rn2 hJ8).t hq24).pos hq25).neg hq26).pos hq31).pos hq32).eq]; exact (hox2.slb Au)), (by rw [((((((((((((((hF.f hq1).f hq4).neg hq8).neg hq9).neg hq12).neg hq21).pos hq22).f hq23).rn2 hJ8).t hq24).pos hq25).neg hq26).pos hq31).pos hq32).eq]; exact (hox696.slb Az)), (by rw [((((((((((((((hF.f hq1).f hq4).neg hq8).neg hq9).neg hq12).neg hq21).pos hq22).f hq23).rn2 hJ8).t hq24).pos hq25).neg hq26).pos hq31).pos hq32).eq]; first | exact lb | (rw [Ak z8]; omega)), (by rw [((((((((((((((hF.f hq1).f hq4).neg hq8).neg hq9).neg hq12).neg hq21).pos hq22).f hq23).rn2 hJ8).t hq24).pos hq25).neg hq26).pos hq31).pos hq32).eq]; first | exact lb | (rw [Ak z8]; omega))⟩
 refine AB0 ?_
 refine iQ ?_
 refine Bh (args := [_, _]) (Aa call137) func137 ntmps137 ?_
 refine Jn ?_
 refine Ad (Al Vq) (k := ?_)
 refine Ad (Bb isAgg47) (k := ?_)
 refine AK3 ?_
 have had_50070 := Vu x_6 ((Cw f.data).1)
 refine fG ?_
 refine Ew ?_
 refine Cs 15 rfl (fun hq33 => ?_) (fun hq33 => ?_)
 rotate_left
 ·refine Ag 2 rfl ?_
  refine Lr ?_
  refine Av results137 z1 ?_
  refine lX ?_
  refine Zy ?_
  refine Gf Ae cE (k := fun r725 hr725 => ?_)
  refine Cn ([(Frame.mk 7 f.stream ([] : Ai))] : List Frame) (List.nil_append _) Hq underlying39 Az Bi.nil (List.Perm.refl _) (Ch.lit (xs := ([(Frame.mk 7 f.stream ([] : Ai))] : List Frame)) Az) ⟨by omega, by omega⟩ (n := 0) (m := 1) (k := fun ax702 cx702 Bx702 hox702 => ?_)
  refine Zz ?_
  refine Ac results14 (Bk.agg isAgg26 sizeOf26 rfl me rfl (Bk.tmp rfl (Bk.agg isAgg43 sizeOf43 rfl me rfl z1))) (fun w1 hw1 => ?_)
  exact ⟨ax1, s.opn.length, ax702, cx702, (Bx2 ++ Bx702), (rq (((((((((((((((hF.f hq1).f hq4).neg hq8).neg hq9).neg hq12).neg hq21).pos hq22).f hq23).rn2 hJ8).t hq24).pos hq25).neg hq26).pos hq31).neg hq32).f hq33)), (Aq (L := (Bx2 ++ Bx702)) (hw1.perm ((qb (qb q0)).trans (qd (qb (qb (qb q0)))))) (nA rfl).symm), (by rw [(((((((((((((((hF.f hq1).f hq4).neg hq8).neg hq9).neg hq12).neg hq21).pos hq22).f hq23).rn2 hJ8).t hq24).pos hq25).neg hq26).pos hq31).neg hq32).f hq33).eq]; exact (hox2.slb Au)), (by rw [(((((((((((((((hF.f hq1).f hq4).neg hq8).neg hq9).neg hq12).neg hq21).pos hq22).f hq23).rn2 hJ8).t hq24).pos hq25).neg hq26).pos hq31).neg hq32).f hq33).eq]; exact (hox702.slb Az)), (by rw [(((((((((((((((hF.f hq1).f hq4).neg hq8).neg hq9).neg hq12).neg hq21).pos hq22).f hq23).rn2 hJ8).t hq24).pos hq25).neg hq26).pos hq31).neg hq32).f hq33).eq]; first | exact lb | (rw [Ak z8]; omega)), (by rw [(((((((((((((((hF.f hq1).f hq4).neg hq8).neg hq9).neg hq12).neg hq21).pos hq22).f hq23).rn2 hJ8).t hq24).pos hq25).neg hq26).pos hq31).neg hq32).f hq33).eq]; first | exact lb | (rw [Ak z8]; omega))⟩
 refine Zu ?_
 refine Ry ?_
 refine Av results137 z1 ?_
 refine Sj ?_
 refine Bd rfl (fun hq34 => ?_) (fun hq34 => ?_)
 ·refine Bw ?_
  refine Lf ?_
  refine Zy ?_
  refine Gf Ae cE (k := fun r720 hr720 => ?_)
  refine Cn ([(Frame.mk 7 f.stream ([] : Ai))] : List Frame) (List.nil_append _) Hq underlying39 Az Bi.nil (List.Perm.refl _) (Ch.lit (xs := ([(Frame.mk 7 f.stream ([] : Ai))] : List Frame)) Az) ⟨by omega, by omega⟩ (n := 0) (m := 1) (k := fun ax697 cx697 Bx697 hox697 => ?_)
  refine Zz ?_
  refine Ac results14 (Bk.agg isAgg26 sizeOf26 rfl me rfl (Bk.tmp rfl (Bk.agg isAgg43 sizeOf43 rfl me rfl z1))) (fun w1 hw1 => ?_)
  exact ⟨ax1, s.opn.length, ax697, cx697, (Bx2 ++ Bx697), (rq ((((((((((((((((hF.f hq1).f hq4).neg hq8).neg hq9).neg hq12).neg hq21).pos hq22).f hq23).rn2 hJ8).t hq24).pos hq25).neg hq26).pos hq31).neg hq32).t hq33).pos hq34)), (Aq (L := (Bx2 ++ Bx697)) (hw1.perm ((qb (qb q0)).trans (qd (qb (qb (qb q0)))))) (nA rfl).symm), (by rw [((((((((((((((((hF.f hq1).f hq4).neg hq8).neg hq9).neg hq12).neg hq21).pos hq22).f hq23).rn2 hJ8).t hq24).pos hq25).neg hq26).pos hq31).neg hq32).t hq33).pos hq34).eq]; exact (hox2.slb Au)), (by rw [((((((((((((((((hF.f hq1).f hq4).neg hq8).neg hq9).neg hq12).neg hq21).pos hq22).f hq23).rn2 hJ8).t hq24).pos hq25).neg hq26).pos hq31).neg hq32).t hq33).pos hq34).eq]; exact (hox697.slb Az)), (by rw [((((((((((((((((hF.f hq1).f hq4).neg hq8).neg hq9).neg hq12).neg hq21).pos hq22).f hq23).rn2 hJ8).t hq24).pos hq25).neg hq26).pos hq31).neg hq32).t hq33).pos hq34).eq]; first | exact lb | (rw [Ak z8]; omega)), (by rw [((((((((((((((((hF.f hq1).f hq4).neg hq8).neg hq9).neg hq12).neg hq21).pos hq22).f hq23).rn2 hJ8).t hq24).pos hq25).neg hq26).pos hq31).neg hq32).t hq33).pos hq34).eq]; first | exact lb | (rw [Ak z8]; omega))⟩
 refine AB1 ?_
 refine iQ ?_
 refine Bh (args := [_]) (Aa call140) func140 ntmps140 ?_
 refine Mq ?_
 refine vT ?_
 refine Tz ?_
 refine Ad Mx (k := ?_)
 refine Z5 ?_
 refine Av results140 z1 ?_
 refine Sj ?_
 refine Bd rfl (fun hq35 => ?_) (fun hq35 => ?_)
 ·refine Bw ?_
  refine Lf ?_
  refine Zy ?_
  refine Gf Ae cE (k := fun r721 hr721 => ?_)
  refine Cn ([(Frame.mk 7 f.stream ([] : Ai))] : List Frame) (List.nil_append _) Hq underlying39 Az Bi.nil (List.Perm.refl _) (Ch.lit (xs := ([(Frame.mk 7 f.stream ([] : Ai))] : List Frame)) Az) ⟨by omega, by omega⟩ (n := 0) (m := 1) (k := fun ax698 cx698 Bx698 hox698 => ?_)
  refine Zz ?_
  refine Ac results14 (Bk.agg isAgg26 sizeOf26 rfl me rfl (Bk.tmp rfl (Bk.agg isAgg43 sizeOf43 rfl me rfl z1))) (fun w1 hw1 => ?_)
  exact ⟨ax1, s.opn.length, ax698, cx698, (Bx2 ++ Bx698), (rq (((((((((((((((((hF.f hq1).f hq4).neg hq8).neg hq9).neg hq12).neg hq21).pos hq22).f hq23).rn2 hJ8).t hq24).pos hq25).neg hq26).pos hq31).neg hq32).t hq33).neg hq34).pos hq35)), (Aq (L := (Bx2 ++ Bx698)) (hw1.perm ((qb (qb q0)).trans (qd (qb (qb (qb q0)))))) (nA rfl).symm), (by rw [(((((((((((((((((hF.f hq1).f hq4).neg hq8).neg hq9).neg hq12).neg hq21).pos hq22).f hq23).rn2 hJ8).t hq24).pos hq25).neg hq26).pos hq31).neg hq32).t hq33).neg hq34).pos hq35).eq]; exact (hox2.slb Au)), (by rw [(((((((((((((((((hF.f hq1).f hq4).neg hq8).neg hq9).neg hq12).neg hq21).pos hq22).f hq23).rn2 hJ8).t hq24).pos hq25).neg hq26).pos hq31).neg hq32).t hq33).neg hq34).pos hq35).eq]; exact (hox698.slb Az)), (by rw [(((((((((((((((((hF.f hq1).f hq4).neg hq8).neg hq9).neg hq12).neg hq21).pos hq22).f hq23).rn2 hJ8).t hq24).pos hq25).neg hq26).pos hq31).neg hq32).t hq33).neg hq34).pos hq35).eq]; first | exact lb | (rw [Ak z8]; omega)), (by rw [(((((((((((((((((hF.f hq1).f hq4).neg hq8).neg hq9).neg hq12).neg hq21).pos hq22).f hq23).rn2 hJ8).t hq24).pos hq25).neg hq26).pos hq31).neg hq32).t hq33).neg hq34).pos hq35).eq]; first | exact lb | (rw [Ak z8]; omega))⟩
 refine Wb ?_
 refine V5 ?_
 refine Pa ?_
 refine V2 ?_
 refine Sv ?_
 refine Zr ?_
 refine F2 ?_
 refine J4 ?_
 refine Uz (n := s.opn.length) (x0 := default) Ev underlying24 Au rfl ⟨by omega, by omega⟩ (k := fun ax699 Bx699 hox699 => ?_)
 refine Ew ?_
 refine Ys (n := s.opn.length) Ev underlying24 Au hox699 q0 (hox2.slj Au) Hs rfl (kk := fun Bx700 hox700 => ?_)
 refine I5 ?_
 refine vT ?_
 refine uQ ?_
 refine mF ?_
 refine G5 ?_
 refine Z4 ?_
 refine B6 ?_
 refine Tm (Aa call141) (fun w1 hw1 => bY w1 (x := s.opn) (target := f.stream) (h_x := (hox700.slj Au) w1 hw1) (n_x := dI)) (k := ?_)
 have hbs_29492 := bW s.opn f.stream
 refine AK9 ?_
 refine lR ?_
 refine G5 ?_
 refine W7 ?_
 refine Gf Ae Xe (k := fun r722 hr722 => ?_)
 refine AO7 (Aa call142) (fun w1 hw1 => Xs w1 (s := s.opn) (i := ((Hy s.opn f.stream).1)) (x := f.stream) (o_s := hox700) (b_s := fun p hp => hw1.own p (by first | exact hp | (simp [hp]; done))) (n_s := dI) (h_v := (Ch.lit (xs := ([f.stream] : List Int)) Au) w1 hw1.right) (d_v := (hw1.notIn (List.Perm.trans R9 (show List.Perm (Bx700 ++ ((r722, oc [(vi f.stream)] 3) :: ((r716, oc [(vi ((Cw f.data).1.addr)), (vi ((Cw f.data).1.port))] 41) :: ((r359, Obj.map em10 km10) :: (Bx2 ++ ((r6, oc [(vi s.phase), (vt s.name), (vi s.handle.slot), (vi s.handle.gen), (vi s.a), (vi s.b), (vs ax699 s.opn.length s.opn.length), (vi f.kind), (vi f.stream), (vt f.data), (vs r_Sg_a r.slots.gens.length r_Sg_c), (vs r_Su_a r.slots.used.length r_Su_c), (vs r_Sf_a r.slots.free.length r_Sf_c), (vs r_l_a r.l.length r_l_c), (vi r.seq), (vi now), (vs none 0 0), (vi 0), (vi 0), (vt ([] : Ai)), (vi 0), (vi 0), (vi 0)] 96) :: ((r5, oc [(vi 0), (vi 0), (vt ([] : Ai)), (vi 0), (vi 0), (vi 0)] 43) :: ((r4, oc [(vi 0), (vt ([] : Ai)), (vi 0), (vi 0), (vi 0), (vi 0), (vs none 0 0)] 26) :: [])))))))) ((r722, oc [(vi f.stream)] 3) :: (Bx700 ++ ((r716, oc [(vi ((Cw f.data).1.addr)), (vi ((Cw f.data).1.port))] 41) :: ((r359, Obj.map em10 km10) :: (Bx2 ++ ((r6, oc [(vi s.phase), (vt s.name), (vi s.handle.slot), (vi s.handle.gen), (vi s.a), (vi s.b), (vs ax699 s.opn.length s.opn.length), (vi f.kind), (vi f.stream), (vt f.data), (vs r_Sg_a r.slots.gens.length r_Sg_c), (vs r_Su_a r.slots.used.length r_Su_c), (vs r_Sf_a r.slots.free.length r_Sf_c), (vs r_l_a r.l.length r_l_c), (vi r.seq), (vi now), (vs none 0 0), (vi 0), (vi 0), (vt ([] : Ai)), (vi 0), (vi 0), (vi 0)] 96) :: ((r5, oc [(vi 0), (vi 0), (vt ([] : Ai)), (vi 0), (vi 0), (vi 0)] 43) :: ((r4, oc [(vi 0), (vt ([] : Ai)), (vi 0), (vi 0), (vi 0), (vi 0), (vs none 0 0)] 26) :: [])))))))) from (q0.trans (qc q0)))))) (e_v := ⟨r722, _, _, rfl, hw1.own (r722, oc [(vi f.stream)] 3) Hs, fun hk => (hw1.notIn (List.Perm.trans R9 (show List.Perm (Bx700 ++ ((r722, oc [(vi f.stream)] 3) :: ((r716, oc [(vi ((Cw f.data).1.addr)), (vi ((Cw f.data).1.port))] 41) :: ((r359, Obj.map em10 km10) :: (Bx2 ++ ((r6, oc [(vi s.phase), (vt s.name), (vi s.handle.slot), (vi s.handle.gen), (vi s.a), (vi s.b), (vs ax699 s.opn.length s.opn.length), (vi f.kind), (vi f.stream), (vt f.data), (vs r_Sg_a r.slots.gens.length r_Sg_c), (vs r_Su_a r.slots.used.length r_Su_c), (vs r_Sf_a r.slots.free.length r_Sf_c), (vs r_l_a r.l.length r_l_c), (vi r.seq), (vi now), (vs none 0 0), (vi 0), (vi 0), (vt ([] : Ai)), (vi 0), (vi 0), (vi 0)] 96) :: ((r5, oc [(vi 0), (vi 0), (vt ([] : Ai)), (vi 0), (vi 0), (vi 0)] 43) :: ((r4, oc [(vi 0), (vt ([] : Ai)), (vi 0), (vi 0), (vi 0), (vi 0), (vs none 0 0)] 26) :: [])))))))) ((r722, oc [(vi f.stream)] 3) :: (Bx700 ++ ((r716, oc [(vi ((Cw f.data).1.addr)), (vi ((Cw f.data).1.port))] 41) :: ((r359, Obj.map em10 km10) :: (Bx2 ++ ((r6, oc [(vi s.phase), (vt s.name), (vi s.handle.slot), (vi s.handle.gen), (vi s.a), (vi s.b), (vs ax699 s.opn.length s.opn.length), (vi f.kind), (vi f.stream), (vt f.data), (vs r_Sg_a r.slots.gens.length r_Sg_c), (vs r_Su_a r.slots.used.length r_Su_c), (vs r_Sf_a r.slots.free.length r_Sf_c), (vs r_l_a r.l.length r_l_c), (vi r.seq), (vi now), (vs none 0 0), (vi 0), (vi 0), (vt ([] : Ai)), (vi 0), (vi 0), (vi 0)] 96) :: ((r5, oc [(vi 0), (vi 0), (vt ([] : Ai)), (vi 0), (vi 0), (vi 0)] 43) :: ((r4, oc [(vi 0), (vt ([] : Ai)), (vi 0), (vi 0), (vi 0), (vi 0), (vs none 0 0)] 26) :: [])))))))) from (q0.trans (qc q0))))) r722 hk ⟨r722, 0, none⟩ rfl (List.cons_ne_nil (0 : Nat) []) rfl⟩) (hi := dI)) (k := ?_)
 rintro w1_684 e1_684 w2_684 hw1_684 ⟨a1_684, c1_684, B1_684, he_684, hf_684, ho1_684⟩
 refine ⟨_, (B1_684 ++ []), he_684, ((hw1_684.perm (List.Perm.trans R9 (show List.Perm (Bx700 ++ ((r722, oc [(vi f.stream)] 3) :: ((r716, oc [(vi ((Cw f.data).1.addr)), (vi ((Cw f.data).1.port))] 41) :: ((r359, Obj.map em10 km10) :: (Bx2 ++ ((r6, oc [(vi s.phase), (vt s.name), (vi s.handle.slot), (vi s.handle.gen), (vi s.a), (vi s.b), (vs ax699 s.opn.length s.opn.length), (vi f.kind), (vi f.stream), (vt f.data), (vs r_Sg_a r.slots.gens.length r_Sg_c), (vs r_Su_a r.slots.used.length r_Su_c), (vs r_Sf_a r.slots.free.length r_Sf_c), (vs r_l_a r.l.length r_l_c), (vi r.seq), (vi now), (vs none 0 0), (vi 0), (vi 0), (vt ([] : Ai)), (vi 0), (vi 0), (vi 0)] 96) :: ((r5, oc [(vi 0), (vi 0), (vt ([] : Ai)), (vi 0), (vi 0), (vi 0)] 43) :: ((r4, oc [(vi 0), (vt ([] : Ai)), (vi 0), (vi 0), (vi 0), (vi 0), (vs none 0 0)] 26) :: [])))))))) (Bx700 ++ ((r722, oc [(vi f.stream)] 3) :: ((r716, oc [(vi ((Cw f.data).1.addr)), (vi ((Cw f.data).1.port))] 41) :: ((r359, Obj.map em10 km10) :: (Bx2 ++ ((r6, oc [(vi s.phase), (vt s.name), (vi s.handle.slot), (vi s.handle.gen), (vi s.a), (vi s.b), (vs ax699 s.opn.length s.opn.length), (vi f.kind), (vi f.stream), (vt f.data), (vs r_Sg_a r.slots.gens.length r_Sg_c), (vs r_Su_a r.slots.used.length r_Su_c), (vs r_Sf_a r.slots.free.length r_Sf_c), (vs r_l_a r.l.length r_l_c), (vi r.seq), (vi now), (vs none 0 0), (vi 0), (vi 0), (vt ([] : Ai)), (vi 0), (vi 0), (vi 0)] 96) :: ((r5, oc [(vi 0), (vi 0), (vt ([] : Ai)), (vi 0), (vi 0), (vi 0)] 43) :: ((r4, oc [(vi 0), (vt ([] : Ai)), (vi 0), (vi 0), (vi 0), (vi 0), (vs none 0 0)] 26) :: [])))))))) from (List.Perm.refl _)))).tr hf_684).perm R9, ?_⟩
 refine lP ?_
 refine Ay lL (k := ?_)
 refine eZ ?_
 refine uQ ?_
 refine El _ (sa (sd (sk (sk (sa (sk (sk (sk sz)))))))) ?_
 refine AM5 ?_
 refine Qt ?_
 refine Ew ?_
 refine eY ?_
 refine Gf Ae cE (k := fun r723 hr723 => ?_)
 refine Cn ([(Frame.mk 5 f.stream ((Kf 4096).1))] : List Frame) (List.nil_append _) Hq underlying39 Az Bi.nil (List.Perm.refl _) (Ch.lit (xs := ([(Frame.mk 5 f.stream ((Kf 4096).1))] : List Frame)) Az) ⟨by omega, by omega⟩ (n := 0) (m := 1) (k := fun ax701 cx701 Bx701 hox701 => ?_)
 refine eX ?_
 refine Cc _ (sa (sd (sa (sk (sk (sa (sk (sk (sk sz))))))))) ?_
 refine Cx results134 Bk.nil ?_
 refine Z0 ?_
 refine Lq ?_
 refine mS ?_
 refine jM ?_
 refine lT ?_
 refine Aj Ae tY (k := fun r724 hr724 => ?_)
 refine Jm ?_
 refine iF ?_
 refine mD ?_
 refine Zs ?_
 refine cI ?_
 refine iP ?_
 refine Ef ?_
 refine Cc _ (sd (sa (sa (sk (sk (sa (sk (sk (sk sz))))))))) ?_
 refine mB ?_
 refine Cc _ (sa (sa (sd (sk (sa (sk (sk (sk sz)))))))) ?_
 refine Cx results85 Bk.nil ?_
 refine Jk ?_
 refine AK4 ?_
 refine Yb ?_
 refine Ac results14 (Bk.agg isAgg26 sizeOf26 rfl me rfl (Bk.tmp rfl (Bk.agg isAgg43 sizeOf43 rfl me rfl z1))) (fun w1 hw1 => ?_)
 exact ⟨a1_684, c1_684, ax701, cx701, (B1_684 ++ Bx701), (rq (((((((((((((((((hF.f hq1).f hq4).neg hq8).neg hq9).neg hq12).neg hq21).pos hq22).f hq23).rn2 hJ8).t hq24).pos hq25).neg hq26).pos hq31).neg hq32).t hq33).neg hq34).neg hq35)), (Aq (L := (B1_684 ++ Bx701)) (hw1.perm ((qb (qb q0)).trans (qd (qb (qb q0))))) (nA rfl).symm), (by rw [(((((((((((((((((hF.f hq1).f hq4).neg hq8).neg hq9).neg hq12).neg hq21).pos hq22).f hq23).rn2 hJ8).t hq24).pos hq25).neg hq26).pos hq31).neg hq32).t hq33).neg hq34).neg hq35).eq]; exact (ho1_684.slb Au)), (by rw [(((((((((((((((((hF.f hq1).f hq4).neg hq8).neg hq9).neg hq12).neg hq21).pos hq22).f hq23).rn2 hJ8).t hq24).pos hq25).neg hq26).pos hq31).neg hq32).t hq33).neg hq34).neg hq35).eq]; exact (hox701.slb Az)), (by rw [(((((((((((((((((hF.f hq1).f hq4).neg hq8).neg hq9).neg hq12).neg hq21).pos hq22).f hq23).rn2 hJ8).t hq24).pos hq25).neg hq26).pos hq31).neg hq32).t hq33).neg hq34).neg hq35).eq]; first | exact lb | (rw [Ak z8]; omega)), (by rw [(((((((((((((((((hF.f hq1).f hq4).neg hq8).neg hq9).neg hq12).neg hq21).pos hq22).f hq23).rn2 hJ8).t hq24).pos hq25).neg hq26).pos hq31).neg hq32).t hq33).neg hq34).neg hq35).eq]; first | exact lb | (rw [Ak z8]; omega))⟩

end Go.Proofs.YtdnjanhdnibkfaaGreatDoor.Jd

namespace Go.Proofs.YtdnjanhdnibkfaaGreatDoor.Jd
open Go.Proofs.Tryz
set_option linter.unusedVariables false
set_option linter.unusedSimpArgs false
theorem tR (s : Session) : (Ee s).opn.length ≤ 10 ∧ (Ee s).name.length ≤ 65 := by
  unfold Ee
  refine ⟨?_, ?_⟩
  · simp only [List.length_take]; omega
  · simp only [List.length_take]; omega
theorem zU (s : Session) : (Ee s).a = s.a ∧ (Ee s).b = s.b := ⟨rfl, rfl⟩
end Go.Proofs.YtdnjanhdnibkfaaGreatDoor.Jd

namespace Go.Proofs.YtdnjanhdnibkfaaGreatDoor.Jd
open Go.Proofs.Tryz
open Go.Proofs
open Go.RowKit (Below)
set_option maxRecDepth 100000
set_option maxHeartbeats 8000000
set_option linter.unusedVariables false
set_option linter.unusedSimpArgs false


theorem zV (w : World) {s_opn_a : Option Addr} {s_opn_c : Nat} {s : Session} (h_s_opn : Sl w eI 1 s_opn_a s.opn) (k_s_opn : s.opn.length ≤ s_opn_c) : Calls Tryz.prog 11 (List.toArray [(Value.agg [(vi s.phase), (vt s.name), (vi s.handle.slot), (vi s.handle.gen), (vi s.a), (vi s.b), (vs s_opn_a s.opn.length s_opn_c)].toArray)]) w fun e w2 => ∃ a1 : Option Addr, ∃ c1 : Nat, ∃ B1 : Am, e = .returned (Value.agg [(vi ((Ee s).phase)), (vt ((Ee s).name)), (vi ((Ee s).handle.slot)), (vi ((Ee s).handle.gen)), (vi ((Ee s).a)), (vi ((Ee s).b)), (vs a1 ((Ee s).opn.length) c1)].toArray) ∧ Dz w w2 B1 ∧ Bi eI 1 3 a1 c1 B1 (Ee s).opn ∧ (Ee s).opn.length ≤ 10 := by
 have hF := Is.refl (Ee s)
 refine enter func11 ntmps11 (h := ?_)
 refine Z2 ?_
 refine Aj Ae z90 (k := fun r1 hr1 => ?_)
 refine Aj Ae A4 (k := fun r2 hr2 => ?_)
 refine Qn ?_
 refine vN ?_
 refine vN ?_
 refine fJ ?_
 refine Ad wQ (k := ?_)
 refine Ad (jY (s := s.name) (min s.name.length 65) runUnderlying9 z8 (hj := by first | (split <;> omega) | (dsimp only; split <;> omega))) (k := ?_)
 have hsb1 : (s.name.take (min s.name.length 65)).length = (min s.name.length 65) := by first | omega | (simp only [List.length_take, List.length_drop, List.length_cons, List.length_nil] <;> omega)
 refine Ad (Al Qa) (k := ?_)
 refine Eh (Bc (l' := [_, _, _, _, _, _, _]) sizeOf9) (k := ?_)
 refine Qn ?_
 refine X2 ?_
 refine Ad lL (k := ?_)
 refine Tz ?_
 refine Ad wQ (k := ?_)
 have hl1 : (s.opn.take (min s.opn.length 10)).length = (min s.opn.length 10) := by rw [List.length_take]; first | (split <;> omega) | omega
 refine Ad (Ju (s.opn.take (min s.opn.length 10)).length runUnderlying24 (fun w => ⟨_, sizeOf3 w⟩) (hm := z8) (hi := by first | (split <;> omega) | omega)) (k := ?_)
 refine Ar (s.opn.take (min s.opn.length 10)) (List.nil_append _) Ev underlying24 Au Bi.nil (List.Perm.refl _) ((Ch.of_base h_s_opn).take (min s.opn.length 10)) ⟨by first | omega | (simp only [List.length_take]; omega), by first | omega | (simp only [List.length_take]; omega)⟩ (n := 0) (m := (s.opn.take (min s.opn.length 10)).length) (k := fun ax1 cx1 Bx1 hox1 => ?_)
 refine E1 ?_
 refine Z0 ?_
 refine F3 ?_
 refine eQ ?_
 refine Ac results11 (Bk.agg isAgg26 sizeOf26 rfl me rfl Bk.nil) (fun w1 hw1 => ?_)
 exact ⟨ax1, cx1, Bx1, (rq hF), (Aq (L := Bx1) (hw1.perm (List.Perm.refl _)) rfl.symm), (by unfold Ee; exact hox1), (by unfold Ee; first | omega | (simp only [List.length_take]; omega) | (simp; omega))⟩

end Go.Proofs.YtdnjanhdnibkfaaGreatDoor.Jd

namespace Go.Proofs.YtdnjanhdnibkfaaGreatDoor
open Go.Proofs.Tryz
open Go.Proofs Go.Proofs.YtdnjanhdnibkfaaGreatDoor.Jd
open Go.ChangeShapes Go.WideShapes Go.ChangeAt Go.RowKit Go.ChangeMaps
set_option maxRecDepth 100000
set_option linter.unusedVariables false
set_option linter.unusedSimpArgs false
theorem Q5 : laidOutB Tryz.prog = true := by kernel_rfl
theorem AU8 : ownKnob Tryz.prog.godebug = none := by kernel_rfl
section
variable {H : Type} {enc : TypeId × Value → H} {W : World}
theorem bZ {n : Nat} {cs : List Value} {y : DataW H × List MemPlace} (h : DataW.trod enc Tryz.prog W 0 (fun _ => true) true n 3 cs = some y) : ∃ v0 : Int, cs = [Value.int .i64 v0] ∧ (-9223372036854775808 ≤ v0 ∧ v0 ≤ 9223372036854775807) := by
  obtain ⟨m, h1, _, h3⟩ := DataW.trod_int underlying3 h
  exact ⟨m, h1, M5 h3⟩
theorem AG4 {n : Nat} {cs : List Value} {y : DataW H × List MemPlace} (h : DataW.trod enc Tryz.prog W 0 (fun _ => true) true n 9 cs = some y) : ∃ v0 : Ai, cs = [Value.string (bs v0)] := by
  obtain ⟨s, h1, _⟩ := DataW.trod_string underlying9 h
  exact ⟨s.data.toList, by rw [← U0 s]; exact h1⟩
theorem Q6 {n : Nat} {cs : List Value} {y : DataW H × List MemPlace} (h : DataW.trod enc Tryz.prog W 0 (fun _ => true) true n 23 cs = some y) : ∃ v0 : Int, ∃ v1 : Int, cs = [Value.int .i64 v0, Value.int .i64 v1] ∧ (-9223372036854775808 ≤ v0 ∧ v0 ≤ 9223372036854775807) ∧ (-9223372036854775808 ≤ v1 ∧ v1 ≤ 9223372036854775807) := by
  obtain ⟨xs, m, _, _, hlen, hxl, hf⟩ := DataW.trod_struct underlying23 h
  have hc : cs.length = 2 := Eq.trans hlen z6
  have hxl2 : xs.length = 2 := by simpa using hxl
  have e0 := hf 0 _ rfl
  rw [List.getElem?_eq_getElem z8] at e0
  obtain ⟨v0_0, q0, f0_0⟩ := bZ e0
  have q02 : (cs.drop 0).take 1 = [.int .i64 v0_0] := Eq.trans (congrArg (fun k => (cs.drop 0).take k) (show 1 = Tryz.prog.cellsOf 3 by kernel_rfl)) q0
  have e1 := hf 1 _ rfl
  rw [List.getElem?_eq_getElem z8] at e1
  obtain ⟨v1_0, q1, f1_0⟩ := bZ e1
  have q12 : (cs.drop 1).take 1 = [.int .i64 v1_0] := Eq.trans (congrArg (fun k => (cs.drop 1).take k) (show 1 = Tryz.prog.cellsOf 3 by kernel_rfl)) q1
  refine ⟨v0_0, v1_0, ?_, f0_0, f1_0⟩
  have h0 : cs = cs.drop 0 := rfl
  rw [h0, Ij cs 0 1 1 rfl, q02, Ij cs 1 1 2 rfl, q12, List.drop_of_length_le z8]
  rfl
theorem Q7 {n : Nat} {cs : List Value} {y : DataW H × List MemPlace} (h : DataW.trod enc Tryz.prog W 0 (fun _ => true) true n 24 cs = some y) : ∃ v0 : Option Addr, ∃ v1 : Nat, ∃ v2 : List Int, cs = [Value.slice v0 v2.length v1] ∧ v2.length ≤ v1 ∧ Sl W eI 1 v0 v2 := by
  obtain ⟨a, c, xs, h1, h2, h3⟩ := L8 (enc := eI) (k := 1) underlying24 z6 Au (sE underlying3) h
  exact ⟨a, c, xs, h1, h2, h3⟩
theorem Q8 {n : Nat} {cs : List Value} {y : DataW H × List MemPlace} (h : DataW.trod enc Tryz.prog W 0 (fun _ => true) true n 26 cs = some y) : ∃ v0 : Int, ∃ v1 : Ai, ∃ v2 : Int, ∃ v3 : Int, ∃ v4 : Int, ∃ v5 : Int, ∃ v6 : Option Addr, ∃ v7 : Nat, ∃ v8 : List Int, cs = [Value.int .i64 v0, Value.string (bs v1), Value.int .i64 v2, Value.int .i64 v3, Value.int .i64 v4, Value.int .i64 v5, Value.slice v6 v8.length v7] ∧ (-9223372036854775808 ≤ v0 ∧ v0 ≤ 9223372036854775807) ∧ (-9223372036854775808 ≤ v2 ∧ v2 ≤ 9223372036854775807) ∧ (-9223372036854775808 ≤ v3 ∧ v3 ≤ 9223372036854775807) ∧ (-9223372036854775808 ≤ v4 ∧ v4 ≤ 9223372036854775807) ∧ (-9223372036854775808 ≤ v5 ∧ v5 ≤ 9223372036854775807) ∧ v8.length ≤ v7 ∧ Sl W eI 1 v6 v8 := by
  obtain ⟨xs, m, _, _, hlen, hxl, hf⟩ := DataW.trod_struct underlying26 h
  have hc : cs.length = 7 := Eq.trans hlen z6
  have hxl2 : xs.length = 6 := by simpa using hxl
  have e0 := hf 0 _ rfl
  rw [List.getElem?_eq_getElem z8] at e0
  obtain ⟨v0_0, q0, f0_0⟩ := bZ e0
  have q02 : (cs.drop 0).take 1 = [.int .i64 v0_0] := Eq.trans (congrArg (fun k => (cs.drop 0).take k) (show 1 = Tryz.prog.cellsOf 3 by kernel_rfl)) q0
  have e1 := hf 1 _ rfl
  rw [List.getElem?_eq_getElem z8] at e1
  obtain ⟨v1_0, q1⟩ := AG4 e1
  have q12 : (cs.drop 1).take 1 = [.string (bs v1_0)] := Eq.trans (congrArg (fun k => (cs.drop 1).take k) (show 1 = Tryz.prog.cellsOf 9 by kernel_rfl)) q1
  have e2 := hf 2 _ rfl
  rw [List.getElem?_eq_getElem z8] at e2
  obtain ⟨v2_0, v2_1, q2, f2_0, f2_1⟩ := Q6 e2
  have q22 : (cs.drop 2).take 2 = [.int .i64 v2_0, .int .i64 v2_1] := Eq.trans (congrArg (fun k => (cs.drop 2).take k) (show 2 = Tryz.prog.cellsOf 23 by kernel_rfl)) q2
  have e3 := hf 3 _ rfl
  rw [List.getElem?_eq_getElem z8] at e3
  obtain ⟨v3_0, q3, f3_0⟩ := bZ e3
  have q32 : (cs.drop 4).take 1 = [.int .i64 v3_0] := Eq.trans (congrArg (fun k => (cs.drop 4).take k) (show 1 = Tryz.prog.cellsOf 3 by kernel_rfl)) q3
  have e4 := hf 4 _ rfl
  rw [List.getElem?_eq_getElem z8] at e4
  obtain ⟨v4_0, q4, f4_0⟩ := bZ e4
  have q42 : (cs.drop 5).take 1 = [.int .i64 v4_0] := Eq.trans (congrArg (fun k => (cs.drop 5).take k) (show 1 = Tryz.prog.cellsOf 3 by kernel_rfl)) q4
  have e5 := hf 5 _ rfl
  rw [List.getElem?_eq_getElem z8] at e5
  obtain ⟨v5_0, v5_1, v5_2, q5, f5_0, f5_1⟩ := Q7 e5
  have q52 : (cs.drop 6).take 1 = [.slice v5_0 v5_2.length v5_1] := Eq.trans (congrArg (fun k => (cs.drop 6).take k) (show 1 = Tryz.prog.cellsOf 24 by kernel_rfl)) q5
  refine ⟨v0_0, v1_0, v2_0, v2_1, v3_0, v4_0, v5_0, v5_1, v5_2, ?_, f0_0, f2_0, f2_1, f3_0, f4_0, f5_0, f5_1⟩
  have h0 : cs = cs.drop 0 := rfl
  rw [h0, Ij cs 0 1 1 rfl, q02, Ij cs 1 1 2 rfl, q12, Ij cs 2 2 4 rfl, q22, Ij cs 4 1 5 rfl, q32, Ij cs 5 1 6 rfl, q42, Ij cs 6 1 7 rfl, q52, List.drop_of_length_le z8]
  rfl
end
def qE : List (String × DataW Unit) := [("math/bits.deBruijn32tab", Rows.laid_math_bits_deBruijn32tab), ("math/bits.deBruijn64tab", Rows.laid_math_bits_deBruijn64tab), ("internal/strconv.uint64pow10", Rows.laid_internal_strconv_uint64pow10), ("wicketgate/ports.errPorts", Rows.laid_wicketgate_ports_errPorts), ("wicketgate/ports.errTarget", Rows.laid_wicketgate_ports_errTarget), ("wicketgate/sha.constants", Rows.laid_wicketgate_sha_constants), ("wicketgate/mac.errKey", Rows.laid_wicketgate_mac_errKey), ("wicketgate/mac.errArg", Rows.laid_wicketgate_mac_errArg), ("wicketgate/wire.errArg", Rows.laid_wicketgate_wire_errArg), ("wicketgate/wire.errMore", Rows.laid_wicketgate_wire_errMore), ("wicketgate/wire.errKind", Rows.laid_wicketgate_wire_errKind), ("wicketgate/wire.errLong", Rows.laid_wicketgate_wire_errLong), ("wicketgate/wire.errFrame", Rows.laid_wicketgate_wire_errFrame), ("wicketgate/acl.errRules", Rows.laid_wicketgate_acl_errRules), ("wicketgate/acl.errRule", Rows.laid_wicketgate_acl_errRule), ("wicketgate/acl.errPlace", Rows.laid_wicketgate_acl_errPlace), ("wicketgate/acl.errTarget", Rows.laid_wicketgate_acl_errTarget), ("wicketgate/roles.verbs", Rows.laid_wicketgate_roles_verbs), ("wicketgate/session.errSession", Rows.laid_wicketgate_session_errSession), ("wicketgate/session.errFrame", Rows.laid_wicketgate_session_errFrame), ("wicketgate/session.errStream", Rows.laid_wicketgate_session_errStream)]
noncomputable def zW (os : Os) : World := { World.holding Tryz.prog os ⟨#[], #[], []⟩ with heap := ((World.holding Tryz.prog os ⟨#[], #[], []⟩).heap.modify 12 fun
      | .cells _ t frozen => .cells #[.iface 317 (.agg #[.pointer (some ⟨23, 93, none⟩)])] t frozen
      | o => o) }
noncomputable def Xc (os : Os) : World := (zW os).layVars Tryz.prog qE
theorem jf1 : laidOutB Tryz.pinned.checked.prog = true := by kernel_rfl
theorem jf2 : mapsRowed Tryz.pinned.checked.prog = true := by kernel_rfl
theorem jf3 : Tryz.pinned.checked.prog.stopsHeard = true := by kernel_rfl
theorem jf4 : Tryz.pinned.checked.prog.mayEnter = true := by kernel_rfl
theorem jf5 : Tryz.pinned.checked.prog.liftsFinal = Rows.sessionProofsRow.lifted := by kernel_rfl
theorem jf6 : Tryz.pinned.checked.prog.stops = [] := by kernel_rfl
theorem jf7 : Tryz.pinned.checked.prog.stopKnobs = [] := by kernel_rfl
theorem AG5 : Tryz.prog.globalNamed "wicketgate/session.errSession" = some 0 := by kernel_rfl
theorem AG6 : (Tryz.prog.globals[0]?).map (·.type) = some 93 := by kernel_rfl
theorem AG7 : Tryz.prog.globalNamed "wicketgate/session.errFrame" = some 1 := by kernel_rfl
theorem AG8 : (Tryz.prog.globals[1]?).map (·.type) = some 93 := by kernel_rfl
theorem AQ0 : Tryz.prog.globalNamed "wicketgate/mac.errArg" = some 2 := by kernel_rfl
theorem AQ1 : (Tryz.prog.globals[2]?).map (·.type) = some 93 := by kernel_rfl
theorem AQ2 : Tryz.prog.globalNamed "wicketgate/ports.errTarget" = some 3 := by kernel_rfl
theorem AQ3 : (Tryz.prog.globals[3]?).map (·.type) = some 93 := by kernel_rfl
theorem Q9 : Tryz.prog.globalNamed "wicketgate/acl.errRules" = some 4 := by kernel_rfl
theorem R0 : (Tryz.prog.globals[4]?).map (·.type) = some 93 := by kernel_rfl
theorem AG9 : Tryz.prog.globalNamed "wicketgate/session.errStream" = some 5 := by kernel_rfl
theorem AH0 : (Tryz.prog.globals[5]?).map (·.type) = some 93 := by kernel_rfl
theorem AQ4 : Tryz.prog.globalNamed "wicketgate/mac.errKey" = some 6 := by kernel_rfl
theorem AQ5 : (Tryz.prog.globals[6]?).map (·.type) = some 93 := by kernel_rfl
theorem AQ6 : Tryz.prog.globalNamed "wicketgate/ports.errPorts" = some 7 := by kernel_rfl
theorem AQ7 : (Tryz.prog.globals[7]?).map (·.type) = some 93 := by kernel_rfl
theorem R1 : Tryz.prog.globalNamed "wicketgate/acl.errRule" = some 8 := by kernel_rfl
theorem R2 : (Tryz.prog.globals[8]?).map (·.type) = some 93 := by kernel_rfl
theorem R3 : Tryz.prog.globalNamed "wicketgate/acl.errPlace" = some 9 := by kernel_rfl
theorem R4 : (Tryz.prog.globals[9]?).map (·.type) = some 93 := by kernel_rfl
theorem qF : Tryz.prog.globalNamed "wicketgate/acl.errTarget" = some 10 := by kernel_rfl
theorem qG : (Tryz.prog.globals[10]?).map (·.type) = some 93 := by kernel_rfl
theorem AQ8 : Tryz.prog.globalNamed "wicketgate/wire.errArg" = some 13 := by kernel_rfl
theorem AQ9 : (Tryz.prog.globals[13]?).map (·.type) = some 93 := by kernel_rfl
theorem AR0 : Tryz.prog.globalNamed "wicketgate/wire.errMore" = some 16 := by kernel_rfl
theorem AR1 : (Tryz.prog.globals[16]?).map (·.type) = some 93 := by kernel_rfl
theorem AR2 : Tryz.prog.globalNamed "wicketgate/wire.errKind" = some 17 := by kernel_rfl
theorem AR3 : (Tryz.prog.globals[17]?).map (·.type) = some 93 := by kernel_rfl
theorem AR4 : Tryz.prog.globalNamed "wicketgate/wire.errLong" = some 18 := by kernel_rfl
theorem AR5 : (Tryz.prog.globals[18]?).map (·.type) = some 93 := by kernel_rfl
theorem AR6 : Tryz.prog.globalNamed "wicketgate/wire.errFrame" = some 19 := by kernel_rfl
theorem AR7 : (Tryz.prog.globals[19]?).map (·.type) = some 93 := by kernel_rfl
theorem qH : "*" ++ "errors.errorString" = "*errors.errorString" := by decide
theorem Eo (u : TypeId) (h : Tryz.prog.typeName? 3 u = some "*errors.errorString") : u = 400 :=
  typeName_ptr_named (nm := "errors.errorString") (by rw [qH]; kernel_rfl) z6 (by decide) u (by rw [qH]; exact h)

theorem Gm : Tryz.prog.cellsOf 419 = 1 := by kernel_rfl
theorem Gn : Tryz.prog.cellsOf 9 = 1 := by kernel_rfl
end Go.Proofs.YtdnjanhdnibkfaaGreatDoor

namespace Go.Proofs.YtdnjanhdnibkfaaGreatDoor.Jd
open Go.Proofs.Tryz
open Go.Proofs
open Go.RowKit (Below)
set_option maxRecDepth 100000
set_option maxHeartbeats 8000000
set_option linter.unusedVariables false
set_option linter.unusedSimpArgs false
def Gy (s : Session) (stream : Int) (other : Int) : Bool := (if ((De (Ee s) stream).2) ≠ 0 then (if Vr = true then (if (decide (((De (Ee s) stream).2) = 180) == (!(Gd (Ee s)))) = true then (if ((De (Ee s) stream).2) = 180 then true else (!(Gk (Ee s) stream))) else false) else false) else (if Vr = true then (if (Gd ((De (Ee s) stream).1)) = true then (if (!(Gk ((De (Ee s) stream).1) stream)) = true then (if (Gk (Ee s) stream) = true then (if other = stream then decide (((((De (Ee s) stream).1.opn.length) : Nat) : Int) = (((((Ee s).opn.length) : Nat) : Int) - 1)) else (if ((Gk (Ee s) other) == (Gk ((De (Ee s) stream).1) other)) = true then decide (((((De (Ee s) stream).1.opn.length) : Nat) : Int) = (((((Ee s).opn.length) : Nat) : Int) - 1)) else false)) else false) else false) else false) else false))
end Go.Proofs.YtdnjanhdnibkfaaGreatDoor.Jd

namespace Go.Proofs.YtdnjanhdnibkfaaGreatDoor.Jd
open Go.Proofs.Tryz
set_option maxRecDepth 100000
set_option linter.unusedVariables false
set_option linter.unusedSimpArgs false
theorem gc1 {r : Bs} (h : r = (Cd 2).1) : Tq r = true := by subst h; kernel_rfl
theorem gc2 {r : Bs} (h : r = (Cd 2).1) : r.seq = 0 := by subst h; kernel_rfl
theorem gc3 : dZ 3 1 = true := by kernel_rfl
theorem gc4 : Pu ([97, 99, 109, 101] : Ai) = true := by kernel_rfl
theorem gc5 {r : Bs} (h : r = (Cd 2).1) : (Hj (Bs.mk r.slots r.l (r.seq + 1)) ([97, 99, 109, 101] : Ai)).2 = false := by subst h; kernel_rfl
theorem gc6 {r : Bs} (h : r = (Cd 2).1) : (Fk r.slots).2.2 = 0 := by subst h; kernel_rfl
theorem gr1 : Mh ([]) = true := by kernel_rfl
theorem gr2 : Rh ([107] : Ai) = true := by kernel_rfl
theorem gc7 : Le.2.2 = 0 := by kernel_rfl
end Go.Proofs.YtdnjanhdnibkfaaGreatDoor.Jd

namespace Go.Proofs.YtdnjanhdnibkfaaGreatDoor.Jd
open Go.Proofs.Tryz
open Go.Proofs
open Go.RowKit (Below)
set_option maxRecDepth 100000
set_option maxHeartbeats 8000000
set_option linter.unusedVariables false
set_option linter.unusedSimpArgs false

theorem zX (w : World) {ea0 : Addr} {ea1 : Addr} {ea2 : Addr} {ea3 : Addr} {ea4 : Addr} {ea5 : Addr} {ea6 : Addr} {ea7 : Addr} {ea8 : Addr} {ea9 : Addr} {ea10 : Addr} {ea11 : Addr} {ea12 : Addr} {ea13 : Addr} {ea14 : Addr} {ea15 : Addr} (hG : Gl w) (hE : Er w ea0 ea1 ea2 ea3 ea4 ea5 ea6 ea7 ea8 ea9 ea10 ea11 ea12 ea13 ea14 ea15) : Calls Tryz.prog 181 (List.toArray [(vs none 0 0), (vt ([107] : Ai)), (vi 0), (vi 0), (vi 100)]) w fun e w2 => ∃ a1 : Option Addr, ∃ c1 : Nat, ∃ B1 : Am, e = .returned (Value.tuple [(vs a1 Le.1.length c1), (vi Le.2.1), (vi Le.2.2)].toArray) ∧ Dz w w2 B1 ∧ Bi Jh 4 112 a1 c1 B1 Le.1 ∧ Le.1.length ≤ 4 := by
 have hF := Is.refl Le
 refine enter func181 ntmps181 (h := ?_)
 refine Z2 ?_
 refine lQ ?_
 refine Ew ?_
 refine Qi ?_
 refine Cg ?_
 refine Bh (args := [_, _, _, _, _]) (Aa call229) func229 ntmps229 ?_
 refine Z2 ?_
 refine Aj Ae Qh (k := fun r1 hr1 => ?_)
 refine Aj Ae Qh (k := fun r2 hr2 => ?_)
 refine lQ ?_
 refine Sm ?_
 refine Co (Aa call101) (fun w1 hw1 => Wz w1 (l := ([])) (h_l := (fun _ _ => Sl.nil) w1 hw1) (n_l := Nm)) (k := ?_)
 refine rV ?_
 refine Dc rfl (fun hq1 => ?_) (fun hq1 => ?_)
 ·exfalso
  exact absurd hq1 (by rw [gr1]; decide)
 have hfhq1 := kQ uF
 refine Z3 ?_
 refine Co (Aa call130) (fun w1 hw1 => Ww w1 (key := ([107] : Ai))) (k := ?_)
 refine rV ?_
 refine Dc rfl (fun hq2 => ?_) (fun hq2 => ?_)
 ·exfalso
  exact absurd hq2 (by rw [gr2]; decide)
 refine Z2 ?_
 refine Hk ?_
 refine Co (Aa call208) (fun w1 hw1 => Vp w1 (n_ := 0) (least := 0) (most := 1000000000000)) (k := ?_)
 refine rP ?_
 refine Cs 31 rfl (fun hq3 => ?_) (fun hq3 => ?_)
 ·exfalso
  exact absurd hq3 (by decide)
 have hfhq3 := gN (by simpa using hq3)
 refine Qv ?_
 refine Mv (Aa call208) (fun w1 hw1 => Vp w1 (n_ := 0) (least := 0) (most := 1000000000)) (k := ?_)
 refine An It (k := ?_)
 refine Te ?_
 refine Cs 36 rfl (fun hq4 => ?_) (fun hq4 => ?_)
 ·exfalso
  exact absurd hq4 (by decide)
 have hfhq4 := gN (by simpa using hq4)
 refine Ep ?_
 refine Mv (Aa call208) (fun w1 hw1 => Vp w1 (n_ := 100) (least := 1) (most := 1000000000)) (k := ?_)
 refine An It (k := ?_)
 refine Te ?_
 refine Cs 41 rfl (fun hq5 => ?_) (fun hq5 => ?_)
 ·exfalso
  exact absurd hq5 (by decide)
 have hfhq5 := gN (by simpa using hq5)
 refine Qv ?_
 refine Ep ?_
 refine An dM (k := ?_)
 refine An Uh (k := ?_)
 refine Ad Du (k := ?_)
 refine Z1 ?_
 refine Tw ?_
 refine Ti ?_
 refine Aj Ae S5 (k := fun r3 hr3 => ?_)
 refine vY ?_
 refine Jm ?_
 refine Wf ?_
 refine Bh (args := [_, _]) (Aa call256) func256 ntmps256 ?_
 refine Jn ?_
 refine Hc ?_
 refine Ad (Dg runUnderlying48) (k := ?_)
 refine eU ?_
 refine S9 ?_
 refine Kg ?_
 refine Pc ?_
 refine Av results256 z1 ?_
 refine Jj ?_
 refine El _ (sk (sd (sk sz))) ?_
 refine Lq ?_
 refine cJ ?_
 refine Hk ?_
 refine cJ ?_
 refine Wg ?_
 refine Ad (Cf (cs := [_, _, _, _]) zeroValue112 zB) (k := ?_)
 refine Aj Ae (Dd (l := [_, _, _, _]) runUnderlying48 sizeOf112 zeroValue112) (k := fun r4 hr4 => ?_)
 refine Ar ([(En.mk 1 ([107] : Ai) 0 100)] : List En) (List.nil_append _) oJ underlying48 Gj Bi.nil (List.Perm.refl _) (Ch.lit (xs := ([(En.mk 1 ([107] : Ai) 0 100)] : List En)) Gj) ⟨by omega, by omega⟩ (n := 0) (m := 1) (k := fun ax1 cx1 Bx1 hox1 => ?_)
 refine Jj ?_
 refine Ez ?_
 refine El _ (sa (sd (sk (sd sz)))) ?_
 refine Lq ?_
 refine Ad (Dg runUnderlying48) (k := ?_)
 refine Ad Uh (k := ?_)
 refine Cg ?_
 refine Aw 65 rfl (fun hq6 => ?_) (fun hq6 => ?_)
 ·exfalso
  first | omega | exact absurd hq6 (by decide) | (simp at hq6; done) | (simp at hq6; omega)
 refine uJ ?_
 refine Rx ?_
 refine Pa ?_
 refine Ez ?_
 refine Dw mixed 5 [(true, 0), (true, 1), (true, 2), (true, 3), (true, 4)] z6 ?_
 refine Fi ?_
 refine Tj ?_
 refine Ud ?_
 refine Ud ?_
 refine eT ?_
 refine Cc _ (sa (sd sz)) ?_
 refine Av results229 (Bk.tmp rfl (Bk.tmp rfl z1)) ?_
 refine fG ?_
 refine uU ?_
 refine Bh (args := [_]) (Aa call230) func230 ntmps230 ?_
 refine Jn ?_
 refine Aj Ae (Bz (l := [_]) zeroValue380) (k := fun r5 hr5 => ?_)
 refine Jk ?_
 refine Z3 ?_
 refine Ad (dW underlying383) (k := ?_)
 refine Co (args := [Value.nilIface, (Value.iface 383 (Value.pointer (some ⟨r5, 0, none⟩)))]) (Aa call128) (fun w1 hw1 => yQ w1) (k := ?_)
 refine Z0 ?_
 refine Pa ?_
 refine Ez ?_
 refine El _ (sd (sa sz)) ?_
 refine Dn ?_
 refine Z5 ?_
 refine Av results230 z1 ?_
 refine lQ ?_
 refine Z5 ?_
 refine Ac results181 (Bk.tmp rfl (Bk.tmp rfl z1)) (fun w1 hw1 => ?_)
 exact ⟨ax1, cx1, Bx1, (rq ((((((hF.f hq1).f hq2).f hq3).f hq4).f hq5).neg hq6)), (Aq (L := Bx1) (hw1.perm (List.Perm.refl _)) rfl.symm), (by rw [((((((hF.f hq1).f hq2).f hq3).f hq4).f hq5).neg hq6).eq]; exact hox1), (rl ((((((hF.f hq1).f hq2).f hq3).f hq4).f hq5).neg hq6))⟩

theorem oQ (w : World) {r_Sg_a : Option Addr} {r_Sg_c : Nat} {r_Su_a : Option Addr} {r_Su_c : Nat} {r_Sf_a : Option Addr} {r_Sf_c : Nat} {r_l_a : Option Addr} {r_l_c : Nat} {r_l_t : List TA} {ea0 : Addr} {ea1 : Addr} {ea2 : Addr} {ea3 : Addr} {ea4 : Addr} {ea5 : Addr} {ea6 : Addr} {ea7 : Addr} {ea8 : Addr} {ea9 : Addr} {ea10 : Addr} {ea11 : Addr} {ea12 : Addr} {ea13 : Addr} {ea14 : Addr} {ea15 : Addr} {r : Bs} (h_r_Sg : Sl w eI 1 r_Sg_a r.slots.gens) (n_r_Sg : r.slots.gens.length ≤ 1000) (h_r_Su : Sl w eB 1 r_Su_a r.slots.used) (n_r_Su : r.slots.used.length ≤ 1000) (h_r_Sf : Sl w eI 1 r_Sf_a r.slots.free) (n_r_Sf : r.slots.free.length ≤ 1000) (h_r_l : cG w Fo 8 DT r_l_a r.l r_l_t) (n_r_l : r.l.length ≤ 1000) (k_r_l : r.l.length ≤ r_l_c) (hG : Gl w) (hE : Er w ea0 ea1 ea2 ea3 ea4 ea5 ea6 ea7 ea8 ea9 ea10 ea11 ea12 ea13 ea14 ea15) (hsm : Gq r.l) (hr : r = (Cd 2).1) : Calls Tryz.prog 32 (List.toArray [(Value.agg [(vs r_Sg_a r.slots.gens.length r_Sg_c), (vs r_Su_a r.slots.used.length r_Su_c), (vs r_Sf_a r.slots.free.length r_Sf_c), (vs r_l_a r.l.length r_l_c), (vi r.seq)].toArray), (vi 3), (Value.agg [(vi 1), (vt ([97, 99, 109, 101] : Ai)), (vi 0), (vi 0), (Value.bool false), (vi 0), (vi 0), (vi 0), (vi 0), (vt ([107] : Ai)), (vi 100), (vi 0)].toArray), (vi 0)]) w fun e w2 => ∃ a1 : Option Addr, ∃ c1 : Nat, ∃ a2 : Option Addr, ∃ c2 : Nat, ∃ a3 : Option Addr, ∃ c3 : Nat, ∃ a4 : Option Addr, ∃ c4 : Nat, ∃ t4 : List TA, ∃ B : Am, e = .returned (Value.tuple [(Value.agg [(vs a1 ((Ax r).1.slots.gens.length) c1), (vs a2 ((Ax r).1.slots.used.length) c2), (vs a3 ((Ax r).1.slots.free.length) c3), (vs a4 ((Ax r).1.l.length) c4), (vi ((Ax r).1.seq))].toArray), (Value.agg [(vi ((Ax r).2.err)), (vi ((Ax r).2.seq)), (vi ((Ax r).2.handle.slot)), (vi ((Ax r).2.handle.gen)), (vi ((Ax r).2.version)), (vi ((Ax r).2.state))].toArray)].toArray) ∧ Dz w w2 B ∧ Hb B eI 1 a1 (Ax r).1.slots.gens ∧ Hb B eB 1 a2 (Ax r).1.slots.used ∧ Hb B eI 1 a3 (Ax r).1.slots.free ∧ (Ko B Fo 8 DT a4 (Ax r).1.l t4 ∧ (Ax r).1.l.length ≤ c4) ∧ (Ax r).1.slots.gens.length ≤ 1000 ∧ (Ax r).1.slots.used.length ≤ 1000 ∧ (Ax r).1.slots.free.length ≤ 1000 ∧ (Ax r).1.l.length ≤ 1000 := by
 have hF := Is.refl (Ax r)
 refine enter func32 ntmps32 (h := ?_)
 refine Z2 ?_
 refine Aj Ae oT (k := fun r1 hr1 => ?_)
 refine Aj Ae (Jf (l := [_, _, _, _, _, _, _, _, _, _, _, _])) (k := fun r2 hr2 => ?_)
 refine Aj Ae S4 (k := fun r3 hr3 => ?_)
 refine Aj Ae (Bz (l := [_, _, _, _, _, _]) zeroValue76) (k := fun r4 hr4 => ?_)
 refine Jk ?_
 refine Xx ?_
 refine Co (Aa call73) (fun w1 hw1 => tH w1 (r := r) (h_r_Sg := (Ch.of_base h_r_Sg) w1 hw1) (n_r_Sg := by first | omega | (simp; done) | exact (hsm _ z8).1 | exact (hsm _ z8).2) (h_r_Su := (Ch.of_base h_r_Su) w1 hw1) (n_r_Su := by first | omega | (simp; done) | exact (hsm _ z8).1 | exact (hsm _ z8).2) (h_r_Sf := (Ch.of_base h_r_Sf) w1 hw1) (n_r_Sf := by first | omega | (simp; done) | exact (hsm _ z8).1 | exact (hsm _ z8).2) (h_r_l := (Hh.of_base Ji h_r_l).2 w1 hw1) (n_r_l := by first | omega | (simp; done) | exact (hsm _ z8).1 | exact (hsm _ z8).2) (k_r_l := k_r_l) (hsm := by first | omega | (simp; done) | exact (hsm _ z8).1 | exact (hsm _ z8).2)) (k := ?_)
 refine rP ?_
 refine Cs 18 rfl (fun hq1 => ?_) (fun hq1 => ?_)
 ·exfalso
  rw [gc1 hr] at hq1; cases hq1
 have hfhq1 := zL uF
 refine An (Al Nl) (k := ?_)
 refine Qv ?_
 refine An My (k := ?_)
 refine Te ?_
 refine Aw 23 rfl (fun hq2 => ?_) (fun hq2 => ?_)
 ·exfalso
  have := gc2 hr; omega
 refine Ep ?_
 refine An Mx (k := ?_)
 refine Te ?_
 refine rL ?_
 refine Rx ?_
 refine Pa ?_
 refine Xx ?_
 refine Pj (Aa call74) (fun w1 hw1 => zI w1 (r := r) (h_r_Sg := (Ch.of_base h_r_Sg) w1 hw1) (n_r_Sg := by first | omega | (simp; done) | exact (hsm _ z8).1 | exact (hsm _ z8).2) (h_r_Su := (Ch.of_base h_r_Su) w1 hw1) (n_r_Su := by first | omega | (simp; done) | exact (hsm _ z8).1 | exact (hsm _ z8).2) (h_r_Sf := (Ch.of_base h_r_Sf) w1 hw1) (n_r_Sf := by first | omega | (simp; done) | exact (hsm _ z8).1 | exact (hsm _ z8).2) (h_r_l := (Hh.of_base Ji h_r_l).2 w1 hw1) (n_r_l := by first | omega | (simp; done) | exact (hsm _ z8).1 | exact (hsm _ z8).2) (k_r_l := k_r_l) (hsm := by first | omega | (simp; done) | exact (hsm _ z8).1 | exact (hsm _ z8).2)) (k := ?_)
 rintro w1_1 e1_1 w2_1 hw1_1 ⟨a1_1, c1_1, a2_1, c2_1, a3_1, c3_1, a4_1, c4_1, t4_1, B_1, he_1, hf_1, hs1_1, hs2_1, hs3_1, hs4_1, hl1_1, hl2_1, hl3_1, hl4_1⟩
 refine ⟨_, _, he_1, hw1_1.fresh hf_1, ?_⟩
 refine mU ?_
 refine Qn ?_
 refine X9 ?_
 refine Wg ?_
 refine Ad (Al Nl) (k := ?_)
 refine Eh (Bc (l' := [_, _, _, _, _]) sizeOf3) (k := ?_)
 refine Jk ?_
 refine Z3 ?_
 refine Ad (Al pX) (k := ?_)
 refine Hk ?_
 refine Co (Aa call75) (fun w1 hw1 => yT w1 (n_ := 3) (v := 1) (hG := hG.ext hw1.ext_out) (hE := hE.ext hw1.ext_out)) (k := ?_)
 refine Oc ?_
 refine Dc rfl (fun hq3 => ?_) (fun hq3 => ?_)
 ·exfalso
  rw [gc3] at hq3; cases hq3
 have hfhq3 := P6 (by simpa using hq3)
 refine Qd ?_
 refine Xx ?_
 refine Ad (Bq isAgg86 sizeOf86) (k := ?_)
 refine Cg ?_
 refine Bh (args := [_, _, _]) (Aa call76) func76 ntmps76 ?_
 refine Z2 ?_
 refine Aj Ae oT (k := fun r5 hr5 => ?_)
 refine Aj Ae (Jf (l := [_, _, _, _, _, _, _, _, _, _, _, _])) (k := fun r6 hr6 => ?_)
 refine Aj Ae S4 (k := fun r7 hr7 => ?_)
 refine Aj Ae Zl (k := fun r8 hr8 => ?_)
 refine Jj ?_
 refine Z2 ?_
 refine Ad (Al pX) (k := ?_)
 refine Hk ?_
 refine Kt ?_
 refine Z2 ?_
 refine rU ?_
 refine tZ ?_
 refine vZ ?_
 refine Ad (Bq isAgg86 sizeOf86) (k := ?_)
 refine Cg ?_
 refine Bh (args := [_, _, _]) (Aa call126) func126 ntmps126 ?_
 refine Z2 ?_
 refine Aj Ae oT (k := fun r9 hr9 => ?_)
 refine Aj Ae (Jf (l := [_, _, _, _, _, _, _, _, _, _, _, _])) (k := fun r10 hr10 => ?_)
 refine Aj Ae S4 (k := fun r11 hr11 => ?_)
 refine Aj Ae Zl (k := fun r12 hr12 => ?_)
 refine Jj ?_
 refine Z2 ?_
 refine Ad (Al gZ) (k := ?_)
 refine Nn ?_
 refine Co (Aa call177) (fun w1 hw1 => bQ w1 (s := ([97, 99, 109, 101] : Ai))) (k := ?_)
 refine Oc ?_
 refine Dc rfl (fun hq4 => ?_) (fun hq4 => ?_)
 ·exfalso
  rw [gc4] at hq4; cases hq4
 refine cQ ?_
 refine Xx ?_
 refine Ad (Al gZ) (k := ?_)
 refine Nn ?_
 refine Co (Aa call41) (fun w1 hw1 => eJ w1 (r := (Bs.mk r.slots r.l (r.seq + 1))) (name := ([97, 99, 109, 101] : Ai)) (h_r_Sg := (Hb.slj hs1_1) w1 hw1) (n_r_Sg := by first | omega | (simp; done) | exact (hsm _ z8).1 | exact (hsm _ z8).2) (h_r_Su := (Hb.slj hs2_1) w1 hw1) (n_r_Su := by first | omega | (simp; done) | exact (hsm _ z8).1 | exact (hsm _ z8).2) (h_r_Sf := (Hb.slj hs3_1) w1 hw1) (n_r_Sf := by first | omega | (simp; done) | exact (hsm _ z8).1 | exact (hsm _ z8).2) (h_r_l := (Ko.j hs4_1.1 sh).2 w1 hw1) (n_r_l := by first | omega | (simp; done) | exact (hsm _ z8).1 | exact (hsm _ z8).2) (k_r_l := hs4_1.2)) (k := ?_)
 refine Qt ?_
 refine Mu ?_
 refine Z0 ?_
 refine Dc rfl (fun hq5 => ?_) (fun hq5 => ?_)
 ·exfalso
  rw [gc5 hr] at hq5; cases hq5
 refine Wd ?_
 refine E6 ?_
 refine Pj (Aa call180) (fun w1 hw1 => yL w1 (s := r.slots) (h_s_gens := (Hb.slj hs1_1) w1 hw1) (n_s_gens := by first | omega | (simp; done) | exact (hsm _ z8).1 | exact (hsm _ z8).2) (h_s_used := (Hb.slj hs2_1) w1 hw1) (n_s_used := by first | omega | (simp; done) | exact (hsm _ z8).1 | exact (hsm _ z8).2) (h_s_free := (Hb.slj hs3_1) w1 hw1) (n_s_free := by first | omega | (simp; done) | exact (hsm _ z8).1 | exact (hsm _ z8).2)) (k := ?_)
 rintro w1_2 e1_2 w2_2 hw1_2 ⟨a1_2, c1_2, a2_2, c2_2, a3_2, c3_2, B_2, he_2, hf_2, hs1_2, hs2_2, hs3_2, hl1_2, hl2_2, hl3_2⟩
 refine ⟨_, _, he_2, hw1_2.fresh hf_2, ?_⟩
 refine X7 ?_
 refine Aj Ae A5 (k := fun r13 hr13 => ?_)
 refine Aj Ae (Bz (l := [_, _]) zeroValue23) (k := fun r14 hr14 => ?_)
 refine iH ?_
 refine Hc ?_
 refine mL ?_
 refine Bd rfl (fun hq6 => ?_) (fun hq6 => ?_)
 ·exfalso
  exact hq6 (gc6 hr)
 refine Wd ?_
 refine Ad (Al P8) (k := ?_)
 refine Nn ?_
 refine Cg ?_
 refine Ad (Al P9) (k := ?_)
 refine Hk ?_
 refine Pj (Aa call181) (fun w1 hw1 => zX w1 (hG := hG.ext hw1.ext_out) (hE := hE.ext hw1.ext_out)) (k := ?_)
 rintro w1_3 e1_3 w2_3 hw1_3 ⟨a1_3, c1_3, B1_3, he_3, hf_3, ho1_3, hl1_3⟩
 refine ⟨_, _, he_3, hw1_3.fresh hf_3, ?_⟩
 refine fG ?_
 refine Hc ?_
 refine mL ?_
 refine Bd rfl (fun hq7 => ?_) (fun hq7 => ?_)
 ·exfalso
  exact hq7 gc7
 refine Wd ?_
 refine Ad A7 (k := ?_)
 refine Ad (Al gZ) (k := ?_)
 refine Nn ?_
 refine Cg ?_
 refine Ad (Cf (cs := [_, _, _, _, _, _, _, _]) zeroValue50 U3) (k := ?_)
 refine Aj Ae Zl (k := fun r15 hr15 => ?_)
 refine jJ ?_
 refine Jk ?_
 refine El _ (sk (sa (sd (sk (sa (sk (sk (sd (sk (sk (sk (sk (sk (sa (sk (sk (sk (sk sz)))))))))))))))))) ?_
 refine Dn ?_
 refine jD ?_
 refine Ad (Al pV) (k := ?_)
 refine Eh (Bc (l' := [_, _, _, _, _]) sizeOf31) (k := ?_)
 refine Jk ?_
 refine El _ (sk (sa (sd (sa (sk (sk (sk (sk (sk (sk (sk (sa (sk (sk (sk (sk sz)))))))))))))))) ?_
 refine Ff _ _ (vp ((qa (qc (qc q0))).trans (qa (qa (qc (qc q0))))) (nC (nC nE))) mixed 7 [(true, 0), (true, 1), (true, 3), (false, 2), (false, 4), (false, 5), (true, 6)] z6 ?_
 refine Ay (Bq isAgg34 sizeOf34) (k := ?_)
 refine Ay S7 (k := ?_)
 refine Ay S7 (k := ?_)
 refine jU (Aa call182) (fun w1 hw1 => Q0 w1 (xs := r.l) (ts := t4_1) (x := (Ah.mk ((Fk r.slots).2.1) ([97, 99, 109, 101] : Ai) 1 1 ([]) Le.1 0)) (v := (TA.mk none 0 a1_3 c1_3)) ((Ko.j hs4_1.1 sh).2 w1 hw1) Qg hs4_1.2) (k := ?_)
 rintro w1_5 e1_5 w2_5 hw1_5 ⟨a1_5, c1_5, B1_5, he_5, hf_5, ho1_5⟩
 refine ⟨_, _, _, he_5, hf_5, rfl, ?_⟩
 have hdp8 : Dr (B_1 ++ (B1_3 ++ [])) DT (St r.l (Ah.mk ((Fk r.slots).2.1) ([97, 99, 109, 101] : Ai) 1 1 ([]) Le.1 0)) (bS r.l t4_1 (Ah.mk ((Fk r.slots).2.1) ([97, 99, 109, 101] : Ai) 1 1 ([]) Le.1 0) (TA.mk none 0 a1_3 c1_3)) := Dr.put ((Dr.of hs4_1.1).mono sh) (Dr.one (B := (B_1 ++ (B1_3 ++ []))) (D := DT) (fun w hw => ⟨Sl.nil, (ho1_3.sl Gj (N5 hw)), Hs, ho1_3.le'⟩))
 have hpx_5 := bT r.l (Ah.mk ((Fk r.slots).2.1) ([97, 99, 109, 101] : Ai) 1 1 ([]) Le.1 0)
 refine Yk (V' := ((r11, _) :: ((r12, _) :: []))) (Bc (l' := [_, _, _, _, _]) sizeOf34) (k := ?_)
 refine Yk (V' := ((r11, _) :: ((r12, _) :: []))) S3 (k := ?_)
 refine uL ?_
 refine Cc _ (sk (sk (sa (sd (sa (sa (sd (sk (sk (sk (sk (sa (sk (sk (sk (sk sz)))))))))))))))) ?_
 refine Av results126 (Bk.agg isAgg34 sizeOf34 rfl me rfl (Bk.agg isAgg50 sizeOf50 rfl me rfl z1)) ?_
 refine Z47 ?_
 refine Ad Iv (k := ?_)
 refine mU ?_
 refine jJ ?_
 refine qN ?_
 refine Cc _ (sd (sd (sa (sa (sa (sk (sk (sd (sd (sa (sk (sk (sk (sk sz)))))))))))))) ?_
 refine Av results76 (Bk.agg isAgg34 sizeOf34 rfl me rfl (Bk.agg isAgg50 sizeOf50 rfl me rfl z1)) ?_
 refine X7 ?_
 refine Aj Ae S4 (k := fun r16 hr16 => ?_)
 refine Aj Ae Zl (k := fun r17 hr17 => ?_)
 refine mU ?_
 refine vB ?_
 refine El _ (sk (sk (sa (sa (sa (sd (sd (sa (sk (sk (sd (sk sz)))))))))))) ?_
 refine M0 (σ1 := Nat) (fun r258 => ((r258, oc [(vi 0), (vi (r.seq + 1)), (vi ((Fk r.slots).2.1.slot)), (vi ((Fk r.slots).2.1.gen)), (vi 1), (vi 1)] 76) :: ((r17, oc [(vi ((Fk r.slots).2.1.slot)), (vi ((Fk r.slots).2.1.gen)), (vt ([97, 99, 109, 101] : Ai)), (vi 1), (vi 1), (vs none 0 0), (vs a1_3 Le.1.length c1_3), (vi 0)] 50) :: ((r16, oc [(vs a1_2 ((Fk r.slots).1.gens.length) c1_2), (vs a2_2 ((Fk r.slots).1.used.length) c2_2), (vs a3_2 ((Fk r.slots).1.free.length) c3_2), (vs a1_5 ((St r.l (Ah.mk ((Fk r.slots).2.1) ([97, 99, 109, 101] : Ai) 1 1 ([]) Le.1 0)).length) c1_5), (vi (r.seq + 1))] 34) :: (B1_5 ++ (B1_3 ++ (B_2 ++ (B_1 ++ ((r4, oc [(vi 0), (vi 0), (vi 0), (vi 0), (vi 0), (vi 0)] 76) :: ((r3, oc [(vs none 0 0), (vs none 0 0), (vs none 0 0), (vs none 0 0), (vi 0)] 34) :: ((r1, oc [(vs a1_1 r.slots.gens.length c1_1), (vs a2_1 r.slots.used.length c2_1), (vs a3_1 r.slots.free.length c3_1), (vs a4_1 r.l.length c4_1), (vi (r.seq + 1))] 34) :: []))))))))))) (fun r258 => [(4, (Value.pointer (some ⟨r1, 0, none⟩))), (8, (Value.pointer (some ⟨r3, 0, none⟩))), (9, (Value.pointer (some ⟨r4, 0, none⟩))), (10, (Value.pointer (some ⟨r16, 0, none⟩))), (12, Value.nilIface), (13, (Value.pointer (some ⟨r258, 0, none⟩)))]) (fun r258 => Is () ()) ?_ ?_
 ·skip
  refine Ui (V := []) mixed 12 z6 ?_
  refine Ci 0 rfl z6 Fp (k := ?_)
  refine Ci 2 rfl z6 (Al Nl) (k := ?_)
  refine Ci 3 rfl z6 (Bb isAgg3) (k := ?_)
  refine Ci 4 rfl z6 (Al Li) (k := ?_)
  refine Ci 5 rfl z6 A7 (k := ?_)
  refine Ci 6 rfl z6 (Al gW) (k := ?_)
  refine Ci 7 rfl z6 (Bb isAgg3) (k := ?_)
  refine Ci 8 rfl z6 (Al Sf) (k := ?_)
  refine Ci 9 rfl z6 (Bb isAgg3) (k := ?_)
  refine Bn [1, 11] z6 rfl (List.forall_mem_cons.2 ⟨?_, (List.forall_mem_cons.2 ⟨?_, nofun⟩)⟩)
  ·skip
   refine AL7 ?_
   refine Bn [11] z6 rfl (List.forall_mem_cons.2 ⟨?_, nofun⟩)
   ·skip
    refine cY rfl Ae (Bz (l := [_, _, _, _, _, _]) zeroValue76) (k := fun r258 hr258 => ?_)
    refine jL ?_
    refine Fq nE ?_
    refine Eh (Bc (l' := [_, _, _, _, _, _]) sizeOf76) (k := ?_)
    refine Ef ?_
    exact jW r258 (Is.refl ()) se (List.Perm.refl _)
  ·skip
   refine cY rfl Ae (Bz (l := [_, _, _, _, _, _]) zeroValue76) (k := fun r258 hr258 => ?_)
   refine Bn [1] z6 rfl (List.forall_mem_cons.2 ⟨?_, nofun⟩)
   ·skip
    refine AL7 ?_
    refine jL ?_
    refine Fq nE ?_
    refine Eh (Bc (l' := [_, _, _, _, _, _]) sizeOf76) (k := ?_)
    refine Ef ?_
    exact jW r258 (Is.refl ()) se (List.Perm.refl _)
 intro r258 hJ1
 refine Gv ?_
 refine Ez ?_
 refine Ez ?_
 refine El _ (sk (sd (sk (sa (sa (sa (sa (sk (sk (sk sz)))))))))) ?_
 refine Dn ?_
 refine Ad (Al P7) (k := ?_)
 refine Ad (Bb isAgg44) (k := ?_)
 refine X9 ?_
 refine Ad (Cf (cs := [_, _, _, _, _, _]) zeroValue76 U4) (k := ?_)
 refine Aj Ae (Bz (l := [_, _, _, _, _, _]) zeroValue76) (k := fun r298 hr298 => ?_)
 refine Eh (Bc (l' := [_, _, _, _, _, _]) sizeOf76) (k := ?_)
 refine Jm ?_
 refine uS ?_
 refine Pa ?_
 refine Ez ?_
 refine El _ (sd (sk (sk (sa (sa (sa (sa (sk (sk (sd sz)))))))))) ?_
 refine Ff _ _ (vp ((qa (qa (qc (qc (qc (qc q0)))))).trans (qa (qa (qa (qc (qc (qc (qc q0)))))))) (nC (nC nE))) mixed 4 [(true, 0), (true, 1), (false, 2), (false, 3)] z6 ?_
 refine Ay (Bq isAgg34 sizeOf34) (k := ?_)
 refine Ay (Bq isAgg76 sizeOf76) (k := ?_)
 refine Yk (V' := ((r3, _) :: ((r4, _) :: []))) (Bc (l' := [_, _, _, _, _]) sizeOf34) (k := ?_)
 refine Yk (V' := ((r3, _) :: ((r4, _) :: []))) (Bc (l' := [_, _, _, _, _, _]) sizeOf76) (k := ?_)
 refine Pf ?_
 refine Z92 ?_
 refine Ac results32 (Bk.agg isAgg34 sizeOf34 rfl me rfl (Bk.agg isAgg76 sizeOf76 rfl me rfl Bk.nil)) (fun w1 hw1 => ?_)
 exact ⟨a1_2, c1_2, a2_2, c2_2, a3_2, c3_2, a1_5, c1_5, (bS r.l t4_1 (Ah.mk ((Fk r.slots).2.1) ([97, 99, 109, 101] : Ai) 1 1 ([]) Le.1 0) (TA.mk none 0 a1_3 c1_3)), (B_2 ++ (B1_5 ++ (B_1 ++ B1_3))), (rq ((((((((hF.f hq1).neg hq2).f hq3).f hq4).f hq5).neg hq6).neg hq7).rn0 hJ1)), (Aq (L := (B_2 ++ (B1_5 ++ (B_1 ++ B1_3)))) (hw1.perm ((((qb (qb (qb (qb (qd q0))))).trans (qd (qb (qb (qb (qb (qd (qd q0)))))))).trans (qd (qd (qb (qb (qb (qb q0))))))).trans (qd (qd (qd (qb (qb (qb (qb q0))))))))) (nA (nA (nA rfl))).symm), (by rw [((((((((hF.f hq1).neg hq2).f hq3).f hq4).f hq5).neg hq6).neg hq7).rn0 hJ1).eq]; exact (hs1_2.mono S0)), (by rw [((((((((hF.f hq1).neg hq2).f hq3).f hq4).f hq5).neg hq6).neg hq7).rn0 hJ1).eq]; exact (hs2_2.mono S0)), (by rw [((((((((hF.f hq1).neg hq2).f hq3).f hq4).f hq5).neg hq6).neg hq7).rn0 hJ1).eq]; exact (hs3_2.mono S0)), (by rw [((((((((hF.f hq1).neg hq2).f hq3).f hq4).f hq5).neg hq6).neg hq7).rn0 hJ1).eq]; exact ⟨((Bi.nb (U := (B1_5 ++ (B_1 ++ (B1_3 ++ [])))) Bt ho1_5 hdp8 (hB := sh) (hR := sh)).mono sh), (by have h0 := ho1_5.le'; rwa [Kd hdp8.1] at h0)⟩), (rl ((((((((hF.f hq1).neg hq2).f hq3).f hq4).f hq5).neg hq6).neg hq7).rn0 hJ1)), (rl ((((((((hF.f hq1).neg hq2).f hq3).f hq4).f hq5).neg hq6).neg hq7).rn0 hJ1)), (rl ((((((((hF.f hq1).neg hq2).f hq3).f hq4).f hq5).neg hq6).neg hq7).rn0 hJ1)), (rl ((((((((hF.f hq1).neg hq2).f hq3).f hq4).f hq5).neg hq6).neg hq7).rn0 hJ1))⟩

end Go.Proofs.YtdnjanhdnibkfaaGreatDoor.Jd

namespace Go.Proofs.YtdnjanhdnibkfaaGreatDoor.Jd
open Go.Proofs.Tryz
set_option maxRecDepth 100000
set_option linter.unusedVariables false
set_option linter.unusedSimpArgs false
theorem eO : ((Ax (Cd 2).1).1.l.map fun t => (t.rules.length, t.creds.length)) = [(0, 1)] := by kernel_rfl
theorem Xt : (Ax (Cd 2).1).1.l.length = 1 := by
  have h := congrArg List.length eO
  simpa using h
theorem dH : Gq (Ax (Cd 2).1).1.l := by
  intro i hi
  have h1 : i = 0 := by have h2 := Xt; omega
  subst h1
  have h := congrArg (fun l => l.getD 0 (9, 9)) eO
  have hn := Xt
  cases hl : (Ax (Cd 2).1).1.l with
  | nil => rw [hl] at hn; cases hn
  | cons x xs =>
    rw [hl] at h
    simp at h
    obtain ⟨ha, hb⟩ := h
    exact ⟨by simp [ha], by simp [hb]⟩
end Go.Proofs.YtdnjanhdnibkfaaGreatDoor.Jd

namespace Go.Proofs.YtdnjanhdnibkfaaGreatDoor.Jd
open Go.Proofs.Tryz
open Go.Proofs
open Go.RowKit (Below)
set_option maxRecDepth 100000
set_option maxHeartbeats 8000000
set_option linter.unusedVariables false
set_option linter.unusedSimpArgs false
theorem qI : Ba Tryz.prog 43 0 0 := fun r k w => by simp [Instr.fieldAt, Instr.sureAddr, fieldPlace, Ao]
theorem AR8 : Ej Tryz.prog 86 [(0, 1), (1, 1), (2, 1), (3, 1), (4, 5), (9, 1), (10, 1), (11, 1)] := ⟨_, fun w => runUnderlying86 w, fun w => by simp⟩
theorem oR (w : World) {ea0 : Addr} {ea1 : Addr} {ea2 : Addr} {ea3 : Addr} {ea4 : Addr} {ea5 : Addr} {ea6 : Addr} {ea7 : Addr} {ea8 : Addr} {ea9 : Addr} {ea10 : Addr} {ea11 : Addr} {ea12 : Addr} {ea13 : Addr} {ea14 : Addr} {ea15 : Addr} (hG : Gl w) (hE : Er w ea0 ea1 ea2 ea3 ea4 ea5 ea6 ea7 ea8 ea9 ea10 ea11 ea12 ea13 ea14 ea15) : Gz Tryz.prog 10 [] w (Value.bool Vr) := by
 have hF := Is.refl Vr
 refine enter func10 ntmps10 (h := ?_)
 refine Jn ?_
 refine Pj (Aa call31) (fun w1 hw1 => P4 w1 (n_ := 2)) (k := ?_)
 rintro w1_1 e1_1 w2_1 hw1_1 ⟨a1_1, c1_1, a2_1, c2_1, a3_1, c3_1, a4_1, c4_1, t4_1, B_1, he_1, hf_1, hs1_1, hs2_1, hs3_1, hs4_1, hl1_1, hl2_1, hl3_1, hl4_1⟩
 refine ⟨_, _, he_1, hw1_1.fresh hf_1, ?_⟩
 refine Zp ?_
 refine Aj Ae S4 (k := fun r1 hr1 => ?_)
 refine mU ?_
 refine Hc ?_
 refine mL ?_
 refine Bd rfl (fun hq1 => ?_) (fun hq1 => ?_)
 ·refine Bw ?_
  refine Yf ?_
  refine Ac results10 z1 (fun w1 hw1 => ?_)
  exact ⟨(rq (hF.pos hq1)), hw1.ext_out⟩
 refine Qd ?_
 refine Xx ?_
 refine Ad (Cf (cs := [_, _, _, _, _, _, _, _, _, _, _, _]) zeroValue86 AR8) (k := ?_)
 refine Pj (Aa call32) (fun w1 hw1 => oQ w1 (r := ((Cd 2).1)) (h_r_Sg := (Hb.slj hs1_1) w1 hw1) (n_r_Sg := z7) (h_r_Su := (Hb.slj hs2_1) w1 hw1) (n_r_Su := z7) (h_r_Sf := (Hb.slj hs3_1) w1 hw1) (n_r_Sf := z7) (h_r_l := (Ko.j hs4_1.1 sh).2 w1 hw1) (n_r_l := z7) (k_r_l := hs4_1.2) (hG := hG.ext hw1.ext_out) (hE := hE.ext hw1.ext_out) (hsm := by first | assumption | exact Gq.nil) (hr := by rfl)) (k := ?_)
 rintro w1_2 e1_2 w2_2 hw1_2 ⟨a1_2, c1_2, a2_2, c2_2, a3_2, c3_2, a4_2, c4_2, t4_2, B_2, he_2, hf_2, hs1_2, hs2_2, hs3_2, hs4_2, hl1_2, hl2_2, hl3_2, hl4_2⟩
 refine ⟨_, _, he_2, hw1_2.fresh hf_2, ?_⟩
 have hap_65774 := dH
 refine Zp ?_
 refine mU ?_
 refine Jk ?_
 refine El _ (sa (sk (sx sz))) ?_
 refine Dn ?_
 refine Pj (Aa call23) (fun w1 hw1 => zS w1 (a := 1) (b := 2) (hG := hG.ext hw1.ext_out) (hE := hE.ext hw1.ext_out)) (k := ?_)
 rintro w1_3 e1_3 w2_3 hw1_3 ⟨a1_3, c1_3, B_3, he_3, hf_3, hs1_3, hl1_3⟩
 refine ⟨_, _, he_3, hw1_3.fresh hf_3, ?_⟩
 refine Zp ?_
 refine Aj Ae A4 (k := fun r2 hr2 => ?_)
 refine mV ?_
 refine Oy ?_
 refine fM ?_
 refine C8 ?_
 refine Pj (Aa call14) (fun w1 hw1 => Si w1 (s := ((Cv 1 2).1)) (f := (Frame.mk 1 0 ([97, 99, 109, 101] : Ai))) (r := ((Ax ((Cd 2).1)).1)) (now := 5) (h_s_opn := (Hb.slj hs1_3) w1 hw1) (n_s_opn := z7) (h_r_Sg := (Hb.slj hs1_2) w1 hw1) (n_r_Sg := z7) (h_r_Su := (Hb.slj hs2_2) w1 hw1) (n_r_Su := z7) (h_r_Sf := (Hb.slj hs3_2) w1 hw1) (n_r_Sf := z7) (h_r_l := (Ko.j hs4_2.1 sh).2 w1 hw1) (n_r_l := z7) (k_r_l := hs4_2.2) (hG := hG.ext hw1.ext_out) (hE := hE.ext hw1.ext_out) (hsm := by first | assumption | exact Gq.nil)) (k := ?_)
 rintro w1_4 e1_4 w2_4 hw1_4 ⟨a1_4, c1_4, a2_4, c2_4, B_4, he_4, hf_4, hs1_4, hs2_4, hl1_4, hl2_4⟩
 refine ⟨_, _, he_4, hw1_4.fresh hf_4, ?_⟩
 refine Zp ?_
 refine Z47 ?_
 refine Aj Ae z80 (k := fun r3 hr3 => ?_)
 refine vF ?_
 refine Jj ?_
 refine Ez ?_
 refine El _ (sd (sa (sk (sx (sa (sk sz)))))) ?_
 refine Lq ?_
 refine Ad Og (k := ?_)
 refine Cg ?_
 refine Aw 48 rfl (fun hq2 => ?_) (fun hq2 => ?_)
 ·refine Ag 2 rfl ?_
  refine Yd ?_
  refine G9 ?_
  refine Ac results10 z1 (fun w1 hw1 => ?_)
  exact ⟨(rq ((hF.neg hq1).pos hq2)), hw1.ext_out⟩
 refine Ep ?_
 refine An Og (k := ?_)
 refine Te ?_
 refine Aw 52 rfl (fun hq3 => ?_) (fun hq3 => ?_)
 ·refine Ag 3 rfl ?_
  refine G9 ?_
  refine Ac results10 z1 (fun w1 hw1 => ?_)
  exact ⟨(rq (((hF.neg hq1).neg hq2).pos hq3)), hw1.ext_out⟩
 refine AB2 ?_
 refine An Og (k := ?_)
 refine Rx ?_
 refine Bd rfl (fun hq4 => ?_) (fun hq4 => ?_)
 ·refine Bw ?_
  refine Yf ?_
  refine Ac results10 z1 (fun w1 hw1 => ?_)
  exact ⟨(rq ((((hF.neg hq1).neg hq2).neg hq3).pos hq4)), hw1.ext_out⟩
 refine Qd ?_
 refine Z3 ?_
 refine Ad (Dl (n := (Bg ((Cv 1 2).1) (Frame.mk 1 0 ([97, 99, 109, 101] : Ai)) ((Ax ((Cd 2).1)).1) 5).2.1.length) runUnderlying39 sizeOf28 0 (Hb.slj hs2_4) (gD Da) Lp) (k := ?_)
 refine Ad (Wi Zj) (k := ?_)
 refine Ad (Cr isAgg9 0 2 (Hb.slj hs2_4) (gD Da)) (k := ?_)
 refine Co (Aa call33) (fun w1 hw1 => pR w1 (key := ([107] : Ai)) (challenge := ((((Bg ((Cv 1 2).1) (Frame.mk 1 0 ([97, 99, 109, 101] : Ai)) ((Ax ((Cd 2).1)).1) 5).2.1).getD 0 default).data)) (name := ([97, 99, 109, 101] : Ai)) (n_name := z7) (hG := hG.ext hw1.ext_out) (hE := hE.ext hw1.ext_out)) (k := ?_)
 have han_82480 := kO ([107] : Ai) ((((Bg ((Cv 1 2).1) (Frame.mk 1 0 ([97, 99, 109, 101] : Ai)) ((Ax ((Cd 2).1)).1) 5).2.1).getD 0 default).data) ([97, 99, 109, 101] : Ai)
 refine Qt ?_
 refine Oy ?_
 refine fM ?_
 refine Cg ?_
 refine C8 ?_
 refine Pj (Aa call14) (fun w1 hw1 => Si w1 (s := ((Bg ((Cv 1 2).1) (Frame.mk 1 0 ([97, 99, 109, 101] : Ai)) ((Ax ((Cd 2).1)).1) 5).1)) (f := (Frame.mk 2 0 ((Hz ([107] : Ai) ((((Bg ((Cv 1 2).1) (Frame.mk 1 0 ([97, 99, 109, 101] : Ai)) ((Ax ((Cd 2).1)).1) 5).2.1).getD 0 default).data) ([97, 99, 109, 101] : Ai)).1))) (r := ((Ax ((Cd 2).1)).1)) (now := 5) (h_s_opn := (Hb.slj hs1_4) w1 hw1) (n_s_opn := z7) (h_r_Sg := (Hb.slj hs1_2) w1 hw1) (n_r_Sg := z7) (h_r_Su := (Hb.slj hs2_2) w1 hw1) (n_r_Su := z7) (h_r_Sf := (Hb.slj hs3_2) w1 hw1) (n_r_Sf := z7) (h_r_l := (Ko.j hs4_2.1 sh).2 w1 hw1) (n_r_l := z7) (k_r_l := hs4_2.2) (hG := hG.ext hw1.ext_out) (hE := hE.ext hw1.ext_out) (hsm := by first | assumption | exact Gq.nil)) (k := ?_)
 rintro w1_5 e1_5 w2_5 hw1_5 ⟨a1_5, c1_5, a2_5, c2_5, B_5, he_5, hf_5, hs1_5, hs2_5, hl1_5, hl2_5⟩
 refine ⟨_, _, he_5, hw1_5.fresh hf_5, ?_⟩
 refine Zp ?_
 refine Z47 ?_
 refine Aj Ae z80 (k := fun r4 hr4 => ?_)
 refine vF ?_
 refine Jj ?_
 refine El _ (sk (sa (sx (sk (sa (sk sz)))))) ?_
 refine Dn ?_
 refine fM ?_
 refine C8 ?_
 refine Pj (Aa call14) (fun w1 hw1 => Si w1 (s := ((Bg ((Bg ((Cv 1 2).1) (Frame.mk 1 0 ([97, 99, 109, 101] : Ai)) ((Ax ((Cd 2).1)).1) 5).1) (Frame.mk 2 0 ((Hz ([107] : Ai) ((((Bg ((Cv 1 2).1) (Frame.mk 1 0 ([97, 99, 109, 101] : Ai)) ((Ax ((Cd 2).1)).1) 5).2.1).getD 0 default).data) ([97, 99, 109, 101] : Ai)).1)) ((Ax ((Cd 2).1)).1) 5).1)) (f := (Frame.mk 3 1 ([49, 46, 50, 46, 51, 46, 52, 58, 56, 48] : Ai))) (r := ((Ax ((Cd 2).1)).1)) (now := 5) (h_s_opn := (Hb.slj hs1_5) w1 hw1) (n_s_opn := z7) (h_r_Sg := (Hb.slj hs1_2) w1 hw1) (n_r_Sg := z7) (h_r_Su := (Hb.slj hs2_2) w1 hw1) (n_r_Su := z7) (h_r_Sf := (Hb.slj hs3_2) w1 hw1) (n_r_Sf := z7) (h_r_l := (Ko.j hs4_2.1 sh).2 w1 hw1) (n_r_l := z7) (k_r_l := hs4_2.2) (hG := hG.ext hw1.ext_out) (hE := hE.ext hw1.ext_out) (hsm := by first | assumption | exact Gq.nil)) (k := ?_)
 rintro w1_6 e1_6 w2_6 hw1_6 ⟨a1_6, c1_6, a2_6, c2_6, B_6, he_6, hf_6, hs1_6, hs2_6, hl1_6, hl2_6⟩
 refine ⟨_, _, he_6, hw1_6.fresh hf_6, ?_⟩
 refine Zp ?_
 refine Z47 ?_
 refine Aj Ae A4 (k := fun r5 hr5 => ?_)
 refine Aj Ae z80 (k := fun r6 hr6 => ?_)
 refine vF ?_
 refine Jj ?_
 refine El _ (sd (sd (sa (sk (sa (sk (sa (sk sz)))))))) ?_
 refine Dn ?_
 refine fM ?_
 refine Cg ?_
 refine C8 ?_
 refine Pj (Aa call14) (fun w1 hw1 => Si w1 (s := ((Bg ((Bg ((Cv 1 2).1) (Frame.mk 1 0 ([97, 99, 109, 101] : Ai)) ((Ax ((Cd 2).1)).1) 5).1) (Frame.mk 2 0 ((Hz ([107] : Ai) ((((Bg ((Cv 1 2).1) (Frame.mk 1 0 ([97, 99, 109, 101] : Ai)) ((Ax ((Cd 2).1)).1) 5).2.1).getD 0 default).data) ([97, 99, 109, 101] : Ai)).1)) ((Ax ((Cd 2).1)).1) 5).1)) (f := (Frame.mk 2 0 ((Hz ([107] : Ai) ((((Bg ((Cv 1 2).1) (Frame.mk 1 0 ([97, 99, 109, 101] : Ai)) ((Ax ((Cd 2).1)).1) 5).2.1).getD 0 default).data) ([97, 99, 109, 101] : Ai)).1))) (r := ((Ax ((Cd 2).1)).1)) (now := 5) (h_s_opn := (Hb.slj hs1_5) w1 hw1) (n_s_opn := z7) (h_r_Sg := (Hb.slj hs1_2) w1 hw1) (n_r_Sg := z7) (h_r_Su := (Hb.slj hs2_2) w1 hw1) (n_r_Su := z7) (h_r_Sf := (Hb.slj hs3_2) w1 hw1) (n_r_Sf := z7) (h_r_l := (Ko.j hs4_2.1 sh).2 w1 hw1) (n_r_l := z7) (k_r_l := hs4_2.2) (hG := hG.ext hw1.ext_out) (hE := hE.ext hw1.ext_out) (hsm := by first | assumption | exact Gq.nil)) (k := ?_)
 rintro w1_7 e1_7 w2_7 hw1_7 ⟨a1_7, c1_7, a2_7, c2_7, B_7, he_7, hf_7, hs1_7, hs2_7, hl1_7, hl2_7⟩
 refine ⟨_, _, he_7, hw1_7.fresh hf_7, ?_⟩
 refine Zp ?_
 refine Z47 ?_
 refine Aj Ae A4 (k := fun r7 hr7 => ?_)
 refine Aj Ae z80 (k := fun r8 hr8 => ?_)
 refine vF ?_
 refine Jj ?_
 refine El _ (sk (sk (sa (sa (sk (sa (sk (sx (sd sz))))))))) ?_
 refine Lq ?_
 refine Ad Gw (k := ?_)
 refine Cg ?_
 refine Aw 96 rfl (fun hq5 => ?_) (fun hq5 => ?_)
 rotate_left
 ·refine Ag 2 rfl ?_
  refine uA ?_
  refine uA ?_
  refine Zq ?_
  refine uA ?_
  refine Wc ?_
  refine Zq ?_
  refine Wc ?_
  refine Tg ?_
  refine Ac results10 z1 (fun w1 hw1 => ?_)
  exact ⟨(rq (((((hF.neg hq1).neg hq2).neg hq3).neg hq4).neg hq5)), hw1.ext_out⟩
 refine Zu ?_
 refine Qq ?_
 refine Aw 100 rfl (fun hq6 => ?_) (fun hq6 => ?_)
 rotate_left
 ·refine Ag 3 rfl ?_
  refine uA ?_
  refine Zq ?_
  refine uA ?_
  refine Wc ?_
  refine Zq ?_
  refine Wc ?_
  refine Tg ?_
  refine Ac results10 z1 (fun w1 hw1 => ?_)
  exact ⟨(rq ((((((hF.neg hq1).neg hq2).neg hq3).neg hq4).pos hq5).neg hq6)), hw1.ext_out⟩
 refine An (Al qI) (k := ?_)
 refine rC ?_
 refine Qq ?_
 refine Aw 105 rfl (fun hq7 => ?_) (fun hq7 => ?_)
 rotate_left
 ·refine Ag 3 rfl ?_
  refine Zq ?_
  refine uA ?_
  refine Wc ?_
  refine Zq ?_
  refine Wc ?_
  refine Tg ?_
  refine Ac results10 z1 (fun w1 hw1 => ?_)
  exact ⟨(rq (((((((hF.neg hq1).neg hq2).neg hq3).neg hq4).pos hq5).pos hq6).neg hq7)), hw1.ext_out⟩
 refine AB2 ?_
 refine An Gw (k := ?_)
 refine Qq ?_
 refine Aw 110 rfl (fun hq8 => ?_) (fun hq8 => ?_)
 rotate_left
 ·refine Ag 5 rfl ?_
  refine uA ?_
  refine Wc ?_
  refine Zq ?_
  refine Wc ?_
  refine Tg ?_
  refine Ac results10 z1 (fun w1 hw1 => ?_)
  exact ⟨(rq ((((((((hF.neg hq1).neg hq2).neg hq3).neg hq4).pos hq5).pos hq6).pos hq7).neg hq8)), hw1.ext_out⟩
 refine Ep ?_
 refine An (Dl (n := (Bg ((Bg ((Cv 1 2).1) (Frame.mk 1 0 ([97, 99, 109, 101] : Ai)) ((Ax ((Cd 2).1)).1) 5).1) (Frame.mk 2 0 ((Hz ([107] : Ai) ((((Bg ((Cv 1 2).1) (Frame.mk 1 0 ([97, 99, 109, 101] : Ai)) ((Ax ((Cd 2).1)).1) 5).2.1).getD 0 default).data) ([97, 99, 109, 101] : Ai)).1)) ((Ax ((Cd 2).1)).1) 5).2.1.length) runUnderlying39 sizeOf28 0 (Hb.slj hs2_5) (gD Da) Lp) (k := ?_)
 refine An (Ht isAgg28 sizeOf28 0 (Hb.slj hs2_5) (gD Da)) (k := ?_)
 refine An (Cf (cs := [_, _, _]) zeroValue28 pY) (k := ?_)
 refine An (Xh (AP5 _ _ _ _ _ _ _ _)) (k := ?_)
 refine Qq ?_
 refine Aw 117 rfl (fun hq9 => ?_) (fun hq9 => ?_)
 rotate_left
 ·refine Ag 3 rfl ?_
  refine Wc ?_
  refine Zq ?_
  refine Wc ?_
  refine Tg ?_
  refine Ac results10 z1 (fun w1 hw1 => ?_)
  exact ⟨(rq (((((((((hF.neg hq1).neg hq2).neg hq3).neg hq4).pos hq5).pos hq6).pos hq7).pos hq8).neg hq9)), hw1.ext_out⟩
 refine An (Al Lj) (k := ?_)
 refine rC ?_
 refine Qq ?_
 refine Aw 122 rfl (fun hq10 => ?_) (fun hq10 => ?_)
 rotate_left
 ·refine Ag 2 rfl ?_
  refine uA ?_
  refine Zq ?_
  refine Wc ?_
  refine Tg ?_
  refine Ac results10 z1 (fun w1 hw1 => ?_)
  exact ⟨(rq ((((((((((hF.neg hq1).neg hq2).neg hq3).neg hq4).pos hq5).pos hq6).pos hq7).pos hq8).pos hq9).neg hq10)), hw1.ext_out⟩
 refine Zu ?_
 refine Qq ?_
 refine Aw 126 rfl (fun hq11 => ?_) (fun hq11 => ?_)
 rotate_left
 ·refine Ag 3 rfl ?_
  refine Zq ?_
  refine Wc ?_
  refine Tg ?_
  refine Ac results10 z1 (fun w1 hw1 => ?_)
  exact ⟨(rq (((((((((((hF.neg hq1).neg hq2).neg hq3).neg hq4).pos hq5).pos hq6).pos hq7).pos hq8).pos hq9).pos hq10).neg hq11)), hw1.ext_out⟩
 refine AB2 ?_
 refine An Gw (k := ?_)
 refine Qq ?_
 refine Aw 131 rfl (fun hq12 => ?_) (fun hq12 => ?_)
 rotate_left
 ·refine Ag 5 rfl ?_
  refine Wc ?_
  refine Tg ?_
  refine Ac results10 z1 (fun w1 hw1 => ?_)
  exact ⟨(rq ((((((((((((hF.neg hq1).neg hq2).neg hq3).neg hq4).pos hq5).pos hq6).pos hq7).pos hq8).pos hq9).pos hq10).pos hq11).neg hq12)), hw1.ext_out⟩
 refine Ep ?_
 refine An (Dl (n := (Bg ((Bg ((Bg ((Cv 1 2).1) (Frame.mk 1 0 ([97, 99, 109, 101] : Ai)) ((Ax ((Cd 2).1)).1) 5).1) (Frame.mk 2 0 ((Hz ([107] : Ai) ((((Bg ((Cv 1 2).1) (Frame.mk 1 0 ([97, 99, 109, 101] : Ai)) ((Ax ((Cd 2).1)).1) 5).2.1).getD 0 default).data) ([97, 99, 109, 101] : Ai)).1)) ((Ax ((Cd 2).1)).1) 5).1) (Frame.mk 3 1 ([49, 46, 50, 46, 51, 46, 52, 58, 56, 48] : Ai)) ((Ax ((Cd 2).1)).1) 5).2.1.length) runUnderlying39 sizeOf28 0 (Hb.slj hs2_6) (gD Da) Lp) (k := ?_)
 refine An (Wi Zi) (k := ?_)
 refine An (Cr isAgg3 0 0 (Hb.slj hs2_6) (gD Da)) (k := ?_)
 refine An Gw (k := ?_)
 refine Qq ?_
 refine Aw 138 rfl (fun hq13 => ?_) (fun hq13 => ?_)
 rotate_left
 ·refine Ag 2 rfl ?_
  refine uA ?_
  refine Tg ?_
  refine Ac results10 z1 (fun w1 hw1 => ?_)
  exact ⟨(rq (((((((((((((hF.neg hq1).neg hq2).neg hq3).neg hq4).pos hq5).pos hq6).pos hq7).pos hq8).pos hq9).pos hq10).pos hq11).pos hq12).neg hq13)), hw1.ext_out⟩
 refine Zu ?_
 refine Qq ?_
 refine Aw 142 rfl (fun hq14 => ?_) (fun hq14 => ?_)
 rotate_left
 ·refine Ag 3 rfl ?_
  refine Tg ?_
  refine Ac results10 z1 (fun w1 hw1 => ?_)
  exact ⟨(rq ((((((((((((((hF.neg hq1).neg hq2).neg hq3).neg hq4).pos hq5).pos hq6).pos hq7).pos hq8).pos hq9).pos hq10).pos hq11).pos hq12).pos hq13).neg hq14)), hw1.ext_out⟩
 refine An (Al qI) (k := ?_)
 refine rC ?_
 refine Qq ?_
 refine Aw 147 rfl (fun hq15 => ?_) (fun hq15 => ?_)
 rotate_left
 ·refine Ag 3 rfl ?_
  refine Lr ?_
  refine Ac results10 z1 (fun w1 hw1 => ?_)
  exact ⟨(rq (((((((((((((((hF.neg hq1).neg hq2).neg hq3).neg hq4).pos hq5).pos hq6).pos hq7).pos hq8).pos hq9).pos hq10).pos hq11).pos hq12).pos hq13).pos hq14).neg hq15)), hw1.ext_out⟩
 refine An (Al Lj) (k := ?_)
 refine rC ?_
 refine Ry ?_
 refine Ac results10 z1 (fun w1 hw1 => ?_)
 exact ⟨(rq (((((((((((((((hF.neg hq1).neg hq2).neg hq3).neg hq4).pos hq5).pos hq6).pos hq7).pos hq8).pos hq9).pos hq10).pos hq11).pos hq12).pos hq13).pos hq14).pos hq15)), hw1.ext_out⟩

end Go.Proofs.YtdnjanhdnibkfaaGreatDoor.Jd

namespace Go.Proofs.YtdnjanhdnibkfaaGreatDoor.Jd
open Go.Proofs.Tryz
open Go.Proofs
open Go.RowKit (Below)
set_option maxRecDepth 100000
set_option maxHeartbeats 8000000
set_option linter.unusedVariables false
set_option linter.unusedSimpArgs false
theorem Tv (w : World) {s_opn_a : Option Addr} {s_opn_c : Nat} {ea0 : Addr} {ea1 : Addr} {ea2 : Addr} {ea3 : Addr} {ea4 : Addr} {ea5 : Addr} {ea6 : Addr} {ea7 : Addr} {ea8 : Addr} {ea9 : Addr} {ea10 : Addr} {ea11 : Addr} {ea12 : Addr} {ea13 : Addr} {ea14 : Addr} {ea15 : Addr} {s : Session} {stream : Int} {other : Int} (h_s_opn : Sl w eI 1 s_opn_a s.opn) (k_s_opn : s.opn.length ≤ s_opn_c) (hG : Gl w) (hE : Er w ea0 ea1 ea2 ea3 ea4 ea5 ea6 ea7 ea8 ea9 ea10 ea11 ea12 ea13 ea14 ea15) : Gz Tryz.prog 6 [(Value.agg [(vi s.phase), (vt s.name), (vi s.handle.slot), (vi s.handle.gen), (vi s.a), (vi s.b), (vs s_opn_a s.opn.length s_opn_c)].toArray), (vi stream), (vi other)] w (Value.bool (Gy s stream other)) := by
 have hF := Is.refl (Gy s stream other)
 refine enter func6 ntmps6 (h := ?_)
 refine Z2 ?_
 refine Aj Ae z90 (k := fun r1 hr1 => ?_)
 refine Oy ?_
 refine Co (Aa call10) (fun w1 hw1 => oR w1 (hG := hG.ext hw1.ext_out) (hE := hE.ext hw1.ext_out)) (k := ?_)
 refine Oy ?_
 refine fM ?_
 refine Pj (Aa call11) (fun w1 hw1 => zV w1 (s := s) (h_s_opn := (Ch.of_base h_s_opn) w1 hw1) (k_s_opn := z7)) (k := ?_)
 rintro w1_1 e1_1 w2_1 hw1_1 ⟨a1_1, c1_1, B1_1, he_1, hf_1, ho1_1, hl1_1⟩
 refine ⟨_, _, he_1, hw1_1.fresh hf_1, ?_⟩
 have hct_14047 := tR s; have hcq_14047 := zU s
 refine mV ?_
 refine Z0 ?_
 refine qS ?_
 refine Cg ?_
 refine Pj (Aa call21) (fun w1 hw1 => Xr w1 (s := (Ee s)) (stream := stream) (h_s_opn := (ho1_1.slj Au) w1 hw1) (n_s_opn := z7) (hG := hG.ext hw1.ext_out) (hE := hE.ext hw1.ext_out)) (k := ?_)
 rintro w1_2 e1_2 w2_2 hw1_2 ⟨a1_2, c1_2, B_2, he_2, hf_2, hs1_2, hl1_2⟩
 refine ⟨_, _, he_2, hw1_2.fresh hf_2, ?_⟩
 refine Zp ?_
 refine Aj Ae A4 (k := fun r2 hr2 => ?_)
 refine mV ?_
 refine Hc ?_
 refine mL ?_
 refine Bd rfl (fun hq1 => ?_) (fun hq1 => ?_)
 ·refine Bw ?_
  refine Sv ?_
  refine Cs 22 rfl (fun hq2 => ?_) (fun hq2 => ?_)
  rotate_left
  ·refine Ag 6 rfl ?_
   refine Te ?_
   refine Ag 8 rfl ?_
   refine Lr ?_
   refine Fa ?_
   refine Ac results6 z1 (fun w1 hw1 => ?_)
   exact ⟨(rq ((hF.pos hq1).f hq2)), hw1.ext_out⟩
  refine Zu ?_
  refine An V0 (k := ?_)
  refine Mv (Aa call22) (fun w1 hw1 => Qb w1 (s := (Ee s)) (h_s_opn := (ho1_1.slj Au) w1 hw1) (n_s_opn := z7)) (k := ?_)
  refine An It (k := ?_)
  refine An (aL runUnderlying4) (k := ?_)
  refine Qq ?_
  refine Cs 30 rfl (fun hq3 => ?_) (fun hq3 => ?_)
  rotate_left
  ·refine Ag 8 rfl ?_
   refine Lr ?_
   refine Fa ?_
   refine Ac results6 z1 (fun w1 hw1 => ?_)
   exact ⟨(rq (((hF.pos hq1).t hq2).f hq3)), hw1.ext_out⟩
  refine Zu ?_
  refine Ep ?_
  refine Aw 33 rfl (fun hq4 => ?_) (fun hq4 => ?_)
  ·refine Ag 4 rfl ?_
   refine An Fx (k := ?_)
   refine aC ?_
   refine Qr ?_
   refine Ac results6 z1 (fun w1 hw1 => ?_)
   exact ⟨(rq ((((hF.pos hq1).t hq2).t hq3).pos hq4)), hw1.ext_out⟩
  refine An V0 (k := ?_)
  refine Ep ?_
  refine Mv (Aa call20) (fun w1 hw1 => Mm w1 (s := (Ee s)) (stream := stream) (h_s_opn := (ho1_1.slj Au) w1 hw1) (n_s_opn := z7)) (k := ?_)
  refine An It (k := ?_)
  refine An Du (k := ?_)
  refine aC ?_
  refine Qr ?_
  refine Ac results6 z1 (fun w1 hw1 => ?_)
  exact ⟨(rq ((((hF.pos hq1).t hq2).t hq3).neg hq4)), hw1.ext_out⟩
 refine cQ ?_
 refine Dw mixed 41 [(true, 0), (true, 1), (true, 2), (false, 3), (true, 4), (true, 5), (true, 6), (true, 7), (false, 8), (true, 9), (true, 10), (true, 11), (true, 12), (true, 13), (false, 14), (true, 15), (true, 16), (true, 17), (true, 18), (true, 19), (true, 20), (true, 21), (true, 22), (true, 24), (true, 25), (false, 23), (false, 26), (true, 27), (true, 28), (true, 29), (true, 30), (true, 31), (true, 32), (true, 33), (true, 34), (true, 35), (true, 36), (true, 37), (true, 38), (true, 39), (true, 40)] z6 ?_
 refine Mp ?_
 refine Jz 41 rfl (fun hq5 => ?_) (fun hq5 => ?_)
 rotate_left
 ·refine Bl 2 rfl ?_
  refine eR ?_
  refine Bl 4 rfl ?_
  refine eR ?_
  refine fB ?_
  refine Bl 12 rfl ?_
  refine eR ?_
  refine Bl 8 rfl ?_
  refine Th ?_
  refine Ac results6 z1 (fun w1 hw1 => ?_)
  exact ⟨(rq ((hF.neg hq1).f hq5)), hw1.ext_out⟩
 refine Bj V0 (k := ?_)
 refine aJ (Aa call22) (fun w1 hw1 => Qb w1 (s := ((De (Ee s) stream).1)) (h_s_opn := (Hb.slj hs1_2) w1 hw1) (n_s_opn := z7)) (k := ?_)
 refine Tf ?_
 refine Jz 45 rfl (fun hq6 => ?_) (fun hq6 => ?_)
 rotate_left
 ·refine Bl 4 rfl ?_
  refine eR ?_
  refine fB ?_
  refine Bl 12 rfl ?_
  refine eR ?_
  refine Bl 8 rfl ?_
  refine Th ?_
  refine Ac results6 z1 (fun w1 hw1 => ?_)
  exact ⟨(rq (((hF.neg hq1).t hq5).f hq6)), hw1.ext_out⟩
 have hfhq6 := Xb hq6
 refine F4 ?_
 refine aJ (Aa call20) (fun w1 hw1 => Mm w1 (s := ((De (Ee s) stream).1)) (stream := stream) (h_s_opn := (Hb.slj hs1_2) w1 hw1) (n_s_opn := z7)) (k := ?_)
 refine Bj It (k := ?_)
 refine Tf ?_
 refine Jz 51 rfl (fun hq7 => ?_) (fun hq7 => ?_)
 rotate_left
 ·refine Bl 3 rfl ?_
  refine eR ?_
  refine Bl 12 rfl ?_
  refine eR ?_
  refine Bl 8 rfl ?_
  refine Th ?_
  refine Ac results6 z1 (fun w1 hw1 => ?_)
  exact ⟨(rq ((((hF.neg hq1).t hq5).t hq6).f hq7)), hw1.ext_out⟩
 refine F4 ?_
 refine aJ (Aa call20) (fun w1 hw1 => Mm w1 (s := (Ee s)) (stream := stream) (h_s_opn := (ho1_1.slj Au) w1 hw1) (n_s_opn := z7)) (k := ?_)
 refine Tf ?_
 refine Jz 56 rfl (fun hq8 => ?_) (fun hq8 => ?_)
 rotate_left
 ·refine Bl 12 rfl ?_
  refine eR ?_
  refine Bl 8 rfl ?_
  refine Th ?_
  refine Ac results6 z1 (fun w1 hw1 => ?_)
  exact ⟨(rq (((((hF.neg hq1).t hq5).t hq6).t hq7).f hq8)), hw1.ext_out⟩
 refine Pd ?_
 refine Pd ?_
 refine Bj Gw (k := ?_)
 refine Pd ?_
 refine Ge 60 rfl (fun hq9 => ?_) (fun hq9 => ?_)
 ·refine Bl 7 rfl ?_
  refine Bj Fx (k := ?_)
  refine Tf ?_
  refine Bj lL (k := ?_)
  refine qT ?_
  refine Bj lL (k := ?_)
  refine qT ?_
  refine Bj Xf (k := ?_)
  refine Bj Gw (k := ?_)
  refine mH ?_
  refine Ac results6 z1 (fun w1 hw1 => ?_)
  exact ⟨(rq ((((((hF.neg hq1).t hq5).t hq6).t hq7).t hq8).pos hq9)), hw1.ext_out⟩
 refine F4 ?_
 refine F4 ?_
 refine aJ (Aa call20) (fun w1 hw1 => Mm w1 (s := (Ee s)) (stream := other) (h_s_opn := (ho1_1.slj Au) w1 hw1) (n_s_opn := z7)) (k := ?_)
 refine aJ (Aa call20) (fun w1 hw1 => Mm w1 (s := ((De (Ee s) stream).1)) (stream := other) (h_s_opn := (Hb.slj hs1_2) w1 hw1) (n_s_opn := z7)) (k := ?_)
 refine Bj (aL runUnderlying4) (k := ?_)
 refine Bj Du (k := ?_)
 refine Tf ?_
 refine Jz 70 rfl (fun hq10 => ?_) (fun hq10 => ?_)
 rotate_left
 ·refine Bl 8 rfl ?_
  refine Th ?_
  refine Ac results6 z1 (fun w1 hw1 => ?_)
  exact ⟨(rq (((((((hF.neg hq1).t hq5).t hq6).t hq7).t hq8).neg hq9).f hq10)), hw1.ext_out⟩
 refine Bj lL (k := ?_)
 refine qT ?_
 refine Bj lL (k := ?_)
 refine qT ?_
 refine Bj Xf (k := ?_)
 refine Bj Gw (k := ?_)
 refine mH ?_
 refine Ac results6 z1 (fun w1 hw1 => ?_)
 exact ⟨(rq (((((((hF.neg hq1).t hq5).t hq6).t hq7).t hq8).neg hq9).t hq10)), hw1.ext_out⟩

end Go.Proofs.YtdnjanhdnibkfaaGreatDoor.Jd

namespace Go.Proofs.YtdnjanhdnibkfaaGreatDoor.Jd.SlT
open Go.Proofs.Tryz
open Go.Proofs
open Go.RowKit (Below)
set_option maxRecDepth 100000
set_option linter.unusedVariables false
set_option linter.unusedSimpArgs false
def AH1 (n : Int) : Bool := decide (n < 0 ∨ 1000000000 < n)
def AR9 (gl : List Int) (ul : List Bool) : Bool := decide (1 ≤ gl.length ∧ gl.length ≤ 64 ∧ ul.length = gl.length)
theorem R5 {α : Type} [Inhabited α] {xs : List α} {k : Nat} (h : k < xs.length) : xs.getD k default = xs[k] := by simp [List.getD, h]
theorem take_succ' {α : Type} [Inhabited α] {xs : List α} {k : Nat} (h : k < xs.length) : xs.take (k + 1) = xs.take k ++ [xs.getD k default] := by
  rw [List.take_add_one, List.getElem?_eq_getElem h, R5 h]; rfl
def hQ : Nat → List Bool → List Nat
  | _, [] => []
  | i, true :: r => i :: hQ (i + 1) r
  | i, false :: r => hQ (i + 1) r
def AU9 (l : List Bool) : Nat := (hQ 0 l).length
def U6 (ul : List Bool) (fl : List Int) : Prop := (∀ x ∈ fl, 0 ≤ x ∧ x < ul.length ∧ ul.getD x.toNat default = false) ∧ fl.Nodup
instance (ul : List Bool) (fl : List Int) : Decidable (U6 ul fl) := inferInstanceAs (Decidable (_ ∧ _))
def zY (gl : List Int) (ul : List Bool) (fl : List Int) : Bool := AR9 gl ul && !(gl.any AH1) && decide (U6 ul fl ∧ (gl.length : Int) - (AU9 ul : Int) = (fl.length : Int))
def oS (gl : List Int) (ul : List Bool) : List (Int × Int) := (hQ 0 ul).map fun i : Nat => ((i : Int), gl.getD i default)
abbrev AH2 := List Int × List Bool × List Int
def cA (fl : List Int) : Int := fl.getD ((fl.length : Int) - 1).toNat default
def AS0 (gl : List Int) (ul : List Bool) (fl : List Int) : AH2 × (Int × Int) × Int :=
  if zY gl ul fl then
    if fl.length = 0 ∨ gl.getD (cA fl).toNat default = 1000000000 then (([], [], []), (0, 0), 92)
    else ((gl.set (cA fl).toNat (gl.getD (cA fl).toNat default + 1), ul.set (cA fl).toNat true, fl.take (fl.length - 1)), (cA fl, gl.getD (cA fl).toNat default + 1), 0)
  else (([], [], []), (0, 0), 90)
/-- What taking gives. -/
structure AV0 (gl : List Int) (ul : List Bool) (fl : List Int) (i : Nat) : Prop where
  right : zY gl ul fl = true
  pos : fl.length ≠ 0
  last : cA fl = (i : Int)
  lt : i < gl.length
  free : ul[i]? = some false
  gen : 0 ≤ gl.getD i default ∧ gl.getD i default < 1000000000
  eq : AS0 gl ul fl = ((gl.set i (gl.getD i default + 1), ul.set i true, fl.take (fl.length - 1)), ((i : Int), gl.getD i default + 1), 0)


end Go.Proofs.YtdnjanhdnibkfaaGreatDoor.Jd.SlT

namespace Go.Proofs.YtdnjanhdnibkfaaGreatDoor.Jd
open Go.Proofs.Tryz
open Go.Proofs
set_option maxRecDepth 100000
set_option linter.unusedVariables false
set_option linter.unusedSimpArgs false
def R6 (a : Int) : List Int → Int
  | [] => a
  | x :: r => R6 x r
theorem zZ : ∀ {l : List Int} {a : Int}, (a :: l).Pairwise (· < ·) → a ≤ R6 a l
  | [], a, h => Int.le_refl _
  | x :: r, a, h => by
    have h1 := (List.pairwise_cons.1 h)
    have h2 := h1.1 x List.mem_cons_self
    have h3 := zZ h1.2
    show a ≤ R6 x r
    omega
theorem A0 : ∀ {l : List Int} {a : Int}, (a :: l).Pairwise (· < ·) → ∀ x ∈ l, x ≤ R6 a l
  | [], a, h, x, hx => by cases hx
  | y :: r, a, h, x, hx => by
    have h1 := (List.pairwise_cons.1 h).2
    show x ≤ R6 y r
    rcases List.mem_cons.1 hx with rfl | hx
    · exact zZ h1
    · exact A0 h1 x hx
theorem A1 : ∀ {l : List Int} {a : Int}, R6 a l = a ∨ R6 a l ∈ l
  | [], a => .inl rfl
  | y :: r, a => by
    rcases @A1 r y with h | h
    · exact .inr (by show R6 y r ∈ _; rw [h]; exact List.mem_cons_self)
    · exact .inr (List.mem_cons_of_mem _ h)
/-- Streams that may be open: rising, none beyond the greatest one, few. -/
structure Jc (l : List Int) : Prop where
  up : (0 :: l).Pairwise (· < ·)
  most : ∀ x ∈ l, x ≤ 65535
  len : l.length ≤ 8
theorem Td (l : List Int) : ∀ n i q, l.length < i + n → i ≤ l.length → ((q :: l.drop i).Pairwise (· < ·) ∧ ∃ j, Dq l n i q = .ok (j, R6 q (l.drop i))) ∨ (¬ (q :: l.drop i).Pairwise (· < ·) ∧ Dq l n i q = .error false)
  | 0, i, q, h1, h2 => by omega
  | n + 1, i, q, h1, h2 => by
    unfold Dq
    by_cases hi : i < l.length
    rotate_left
    · rw [if_neg z8, List.drop_eq_nil_of_le z8]
      exact .inl ⟨List.pairwise_singleton _ _, i, rfl⟩
    rw [if_pos z8, Ig hi]
    by_cases hq : l.getD i default ≤ q
    · rw [if_pos hq]
      refine .inr ⟨fun h => ?_, rfl⟩
      have := (List.pairwise_cons.1 h).1 _ List.mem_cons_self
      omega
    rw [if_neg hq]
    rcases Td l n (i + 1) (l.getD i default) z8 z8 with ⟨g1, j, g2⟩ | ⟨g1, g2⟩
    · refine .inl ⟨List.pairwise_cons.2 ⟨fun x hx => ?_, g1⟩, j, g2⟩
      rcases List.mem_cons.1 hx with rfl | hx
      · omega
      · have := (List.pairwise_cons.1 g1).1 x hx; omega
    · exact .inr ⟨fun h => g1 (List.pairwise_cons.1 h).2, g2⟩
theorem cB (l : List Int) : Ds l = true ↔ Jc l := by
  unfold Ds
  rcases Td l (l.length + 1) 0 0 z8 z8 with ⟨g1, j, g2⟩ | ⟨g1, g2⟩
  · rw [g2]
    rw [List.drop_zero] at g1
    simp only [Ho, List.drop_zero]
    constructor
    · intro h
      split at h
      · have h8 := of_decide_eq_true h
        exact ⟨g1, fun x hx => by have := A0 g1 x hx; omega, by omega⟩
      · cases h
    · rintro ⟨h1, h2, h3⟩
      rw [if_pos (by
        rcases @A1 l 0 with h | h
        · rw [h]; omega
        · exact h2 _ h)]
      exact decide_eq_true z8
  · rw [g2]
    rw [List.drop_zero] at g1
    simp only [Ho, Bool.false_eq_true, false_iff]
    exact fun h => g1 h.up
theorem lI (l : List Int) [Decidable (Jc l)] : Ds l = decide (Jc l) := by rw [Bool.eq_iff_iff, cB, decide_eq_true_iff]
theorem Jc.nil : Jc [] := ⟨List.pairwise_singleton _ _, fun x hx => (by cases hx), Hs⟩
/-- Which sessions are right. -/
structure Ih (s : Session) : Prop where
  phase : 0 ≤ s.phase ∧ s.phase ≤ 3
  a : 0 ≤ s.a ∧ s.a ≤ 2147483647
  b : 0 ≤ s.b ∧ s.b ≤ 2147483647
  len : s.name.length ≤ 64
  named : s.name ≠ [] ↔ (s.phase = 1 ∨ s.phase = 2)
  free : s.phase ≠ 2 → (s.handle.slot = 0 ∧ s.handle.gen = 0) ∧ s.opn = []
  opn : Jc s.opn
theorem Xu (s : Session) : Gd s = true ↔ Ih s := by
  unfold Gd
  have key : ∀ (p : Bool × Bool × Bool), (dA p (fun ok_1 x_2 x_3 => (if ((s.name.length : Nat) : Int) ≤ 64 then (if s.handle.slot = 0 ∧ s.handle.gen = 0 then (if ok_1 = true then (if s.a < 0 then false else (if 2147483647 < s.a then false else (if s.b < 0 then false else (if 2147483647 < s.b then false else (if (decide (s.name ≠ ([] : Ai)) == x_2) = true then (if x_3 = true then (Ds s.opn) else (if ((s.opn.length : Nat) : Int) = 0 then (Ds s.opn) else false)) else false))))) else false) else (if ok_1 = true then (if s.a < 0 then false else (if 2147483647 < s.a then false else (if s.b < 0 then false else (if 2147483647 < s.b then false else (if (decide (s.name ≠ ([] : Ai)) == x_2) = true then (if x_3 = true then (Ds s.opn) else false) else false))))) else false)) else (if s.handle.slot = 0 ∧ s.handle.gen = 0 then (if ok_1 = true then (if s.a < 0 then false else (if 2147483647 < s.a then false else (if s.b < 0 then false else (if 2147483647 < s.b then false else false)))) else false) else (if ok_1 = true then (if s.a < 0 then false else (if 2147483647 < s.a then false else (if s.b < 0 then false else (if 2147483647 < s.b then false else false)))) else false)))) = true) ↔ (p.1 = true ∧ (0 ≤ s.a ∧ s.a ≤ 2147483647) ∧ (0 ≤ s.b ∧ s.b ≤ 2147483647) ∧ s.name.length ≤ 64 ∧ (s.name ≠ [] ↔ p.2.1 = true) ∧ (p.2.2 = false → (s.handle.slot = 0 ∧ s.handle.gen = 0) ∧ s.opn = []) ∧ Jc s.opn) := by
    rintro ⟨p1, p2, p3⟩
    simp only [dA]
    haveI : Decidable (Jc s.opn) := Classical.propDecidable _
    rw [lI s.opn]
    constructor
    · intro h
      repeat' split at h
      all_goals first | (cases h; done) | skip
      all_goals have hs := of_decide_eq_true h
      all_goals refine ⟨by assumption, by omega, by omega, by omega, (by rename_i hp _; cases p2 <;> simp_all), ?_, hs⟩
      all_goals first | (intro h3; simp_all; done) | skip
      all_goals exact fun _ => ⟨by assumption, List.eq_nil_of_length_eq_zero z8⟩
    · rintro ⟨h1, h2, h3, h4, h5, h6, h7⟩
      have e5 : (decide (s.name ≠ ([] : Ai)) == p2) = true := by
        by_cases hn : s.name = []
        · cases p2 <;> simp_all
        · cases p2 <;> simp_all
      rw [if_pos z8, e5, h1]
      simp only [if_true]
      rw [if_neg (show ¬ s.a < 0 by omega), if_neg (show ¬ 2147483647 < s.a by omega), if_neg (show ¬ s.b < 0 by omega), if_neg (show ¬ 2147483647 < s.b by omega)]
      cases p3 with
      | true => simp [h7]; exact .inr ⟨h2.1, h2.2, h3.1, h3.2⟩
      | false =>
        obtain ⟨g1, g2⟩ := h6 rfl
        rw [if_pos g1]
        simp [g2, h7] at *
        simp_all
  rw [key]
  constructor
  · rintro ⟨h1, h2, h3, h4, h5, h6, h7⟩
    by_cases q0 : s.phase = 0
    · simp only [q0, if_true] at h1 h5 h6
      exact ⟨by omega, h2, h3, h4, by rw [h5]; simp [q0], fun _ => by simpa using h6, h7⟩
    by_cases q1 : s.phase = 1
    · simp only [q1, if_true] at h1 h5 h6
      exact ⟨by omega, h2, h3, h4, by simp at h5; simp [q1, h5], fun _ => by simpa using h6, h7⟩
    by_cases q2 : s.phase = 2
    · simp only [q2] at h1 h5 h6
      exact ⟨by omega, h2, h3, h4, by simp at h5; simp [q2, h5], fun h => absurd q2 h, h7⟩
    by_cases q3 : s.phase = 3
    · simp only [q3] at h1 h5 h6
      exact ⟨by omega, h2, h3, h4, by simp at h5; simp [q3, h5], fun _ => by simpa using h6, h7⟩
    · rw [if_neg q0, if_neg q1, if_neg q2, if_neg q3] at h1
      cases h1
  · rintro ⟨h1, h2, h3, h4, h5, h6, h7⟩
    obtain q | q | q | q : s.phase = 0 ∨ s.phase = 1 ∨ s.phase = 2 ∨ s.phase = 3 := by omega
    all_goals simp only [q] at h5 h6
    all_goals refine ⟨by simp [q], h2, h3, h4, by simp [q] at h5 ⊢; try exact h5, by simp [q] at h6 ⊢; try exact h6, h7⟩
end Go.Proofs.YtdnjanhdnibkfaaGreatDoor.Jd

namespace Go.Proofs.YtdnjanhdnibkfaaGreatDoor.Jd
open Go.Proofs.Tryz
open Go.Proofs
set_option maxRecDepth 100000
set_option linter.unusedVariables false
set_option linter.unusedSimpArgs false
theorem Vv (s : Session) (n : Int) : ∀ f i, s.opn.length < i + f → i ≤ s.opn.length → (Fg (Ou s n f i) (fun r => r) (fun _ => false) = true ↔ n ∈ s.opn.drop i)
  | 0, i, h1, h2 => by omega
  | f + 1, i, h1, h2 => by
    unfold Ou
    by_cases hi : i < s.opn.length
    rotate_left
    · rw [if_neg z8, List.drop_eq_nil_of_le z8]; simp [Fg]
    rw [if_pos z8, Ig hi]
    by_cases e : s.opn.getD i default = n
    · rw [if_pos e, e]; simp [Fg]
    · rw [if_neg e, Vv s n f (i + 1) z8 z8, List.mem_cons]
      exact ⟨.inr, fun h => h.resolve_left fun e2 => e e2.symm⟩
theorem Ov (s : Session) (n : Int) : Gk s n = true ↔ n ∈ s.opn := by
  have h := Vv s n (s.opn.length + 1) 0 z8 z8
  rwa [List.drop_zero] at h
theorem Xd (s : Session) (n : Int) (x : Nat) (o : List Int) : ∀ f (L : List Int) i j, o.length < j + f → j ≤ o.length → i ≤ j → L.length = o.length → L.take i = (o.take j).filter (· ≠ n) → L.drop j = o.drop j → (Ga s n x f L i j).1.take (Ga s n x f L i j).2.1 = o.filter (· ≠ n)
  | 0, L, i, j, h1, h2, h3, h4, h5, h6 => by omega
  | f + 1, L, i, j, h1, h2, h3, h4, h5, h6 => by
    unfold Ga
    by_cases hj : j < o.length
    rotate_left
    · rw [if_neg z8]
      have : j = o.length := by omega
      subst this
      rw [List.take_length] at h5; exact h5
    rw [if_pos z8]
    have eg : L.getD j default = o.getD j default := by
      have e1 : (L.drop j)[0]? = (o.drop j)[0]? := by rw [h6]
      rw [List.getElem?_drop, List.getElem?_drop] at e1
      rw [List.getD_eq_getElem?_getD, List.getD_eq_getElem?_getD]
      simpa using congrArg (fun z => z.getD default) e1
    have hd : L.drop (j + 1) = o.drop (j + 1) := by
      have := congrArg (List.drop 1) h6
      rwa [List.drop_drop, List.drop_drop] at this
    by_cases e : L.getD j default = n
    · rw [if_neg (by simpa using e)]
      refine Xd s n x o f L i (j + 1) z8 z8 z8 h4 ?_ hd
      rw [SlT.take_succ' hj, List.filter_append, h5, ← eg, e]; simp
    · rw [if_pos e]
      have hi : i < L.length := by omega
      refine Xd s n x o f (L.set i (L.getD j default)) (i + 1) (j + 1) z8 z8 z8 (by simpa using h4) ?_ ?_
      · rw [SlT.take_succ' hj, List.filter_append, ← eg, ← h5, SlT.take_succ' (by simpa using hi)]
        have e1 : (L.set i (L.getD j default)).take i = L.take i := by
          rw [List.take_set_of_le z8]
        have e2 : (L.set i (L.getD j default)).getD i default = L.getD j default := by simp [List.getD, hi]
        rw [e1, e2, List.filter_cons_of_pos (by simpa using e)]; rfl
      · rw [List.drop_set_of_lt z8]; exact hd
theorem cC {l : List Int} {n : Int} (h : ∀ x ∈ l, x ≠ n) : l.filter (· ≠ n) = l := List.filter_eq_self.2 fun x hx => by simpa using h x hx
theorem eP (s : Session) (n : Int) : ∀ f k, s.opn.length < k + f → k ≤ s.opn.length → (∀ x ∈ s.opn.take k, x ≠ n) → n ∈ s.opn.drop k → Im s n f k = .error (Session.mk s.phase s.name s.handle s.a s.b (s.opn.filter (· ≠ n)), 0)
  | 0, k, h1, h2, h3, h4 => by omega
  | f + 1, k, h1, h2, h3, h4 => by
    unfold Im
    by_cases hk : k < s.opn.length
    rotate_left
    · rw [List.drop_eq_nil_of_le z8] at h4; cases h4
    rw [if_pos z8]
    by_cases e : s.opn.getD k default = n
    · rw [if_pos e, if_neg z8]
      have g := Xd s n k s.opn (s.opn.length - (k + 1) + 1) s.opn k (k + 1) z8 z8 z8 rfl (by
        rw [SlT.take_succ' hk, List.filter_append, cC h3, e]; simp) rfl
      generalize Ga s n k (s.opn.length - (k + 1) + 1) s.opn k (k + 1) = y at g
      obtain ⟨y1, y2, y3⟩ := y
      simp only [dA, List.take_take, Nat.min_self]
      simp only at g
      rw [g]
    · rw [if_neg e]
      refine eP s n f (k + 1) z8 z8 (fun x hx => ?_) ?_
      · rw [SlT.take_succ' hk] at hx
        rcases List.mem_append.1 hx with hx | hx
        · exact h3 x hx
        · rw [List.mem_singleton] at hx; rw [hx]; exact e
      · rw [Ig hk] at h4
        exact (List.mem_cons.1 h4).resolve_left fun e2 => e e2.symm
def noS : Session := Session.mk 0 ([] : Ai) (Handle.mk 0 0) 0 0 []
def Xv (s : Session) (n : Int) : Session := Session.mk s.phase s.name s.handle s.a s.b (s.opn.filter (· ≠ n))
theorem lJ (s : Session) (n : Int) : De s n = if Gd s = true then (if Gk s n = true then (Xv s n, 0) else (noS, 181)) else (noS, 180) := by
  unfold De
  cases h1 : Gd s with
  | false => rfl
  | true =>
    cases h2 : Gk s n with
    | false => rfl
    | true =>
      have := eP s n (s.opn.length + 1) 0 z8 z8 (fun x hx => by simp at hx) (by rw [List.drop_zero]; exact (Ov s n).1 h2)
      rw [this]; rfl
theorem Jc.less {l : List Int} (h : Jc l) (n : Int) : Jc (l.filter (· ≠ n)) := by
  have hs : (l.filter (· ≠ n)).Sublist l := List.filter_sublist
  exact ⟨(h.up).sublist (hs.cons_cons 0), fun x hx => h.most x (hs.subset hx), Nat.le_trans hs.length_le h.len⟩
end Go.Proofs.YtdnjanhdnibkfaaGreatDoor.Jd

namespace Go.Proofs.YtdnjanhdnibkfaaGreatDoor.Jd
open Go.Proofs.Tryz
open Go.Proofs
set_option maxRecDepth 100000
set_option linter.unusedVariables false
set_option linter.unusedSimpArgs false
def noA : Act := Act.mk 0 0 ([] : Ai) 0 (Bp.mk 0 0)
def AS1 (s : Session) : Session := Session.mk 3 ([] : Ai) (Handle.mk 0 0) s.a s.b []
def AS2 : Act := Act.mk 6 0 ([] : Ai) 0 (Bp.mk 0 0)
/-- A proof that makes a session ready. -/
structure qJ (s : Session) (f : Frame) (r : Bs) (now : Int) : Prop where
  phase : s.phase = 1
  kind : f.kind = 2
  found : (Ct r s.name).2 = true
  state : (Ct r s.name).1.state = 1
  check : (Wr (Ct r s.name).1.creds now (Ol s.a s.b).1 s.name f.data).2 = true
/-- A stream that may be opened. -/
structure AH4 (s : Session) (f : Frame) (r : Bs) : Prop where
  phase : s.phase = 2
  kind : f.kind = 3
  has : Gk s f.stream = false
  found : (Ct r s.name).2 = true
  state : (Ct r s.name).1.state = 1
  handle : (Ct r s.name).1.handle.slot = s.handle.slot ∧ (Ct r s.name).1.handle.gen = s.handle.gen
  target : (Cw f.data).2 = 0
  allows : (Ey (Ct r s.name).1.rules (Cw f.data).1).1 = true
  noerr : (Ey (Ct r s.name).1.rules (Cw f.data).1).2.2 = 0
  room : s.opn.length < 8
def AS3 (s : Session) (n : Int) : Session := Session.mk s.phase s.name s.handle s.a s.b (Nx s.opn (Hy s.opn n).1.toNat n)
inductive Yo (s : Session) (f : Frame) (r : Bs) (now : Int) : Session × (List Frame) × Act × Int → Prop where
  | badS (h : Gd s = false) : Yo s f r now (noS, [], noA, 180)
  | badF (h : Gd s = true) (hf : Gc f = false) : Yo s f r now (noS, [], noA, 33)
  | dead (h : Ih s) (hf : Gc f = true) (hp : s.phase = 3) : Yo s f r now (s, [], noA, 0)
  | ping (h : Ih s) (hf : Gc f = true) (hp : s.phase ≠ 3) (hk : f.kind = 8) : Yo s f r now (s, [Frame.mk 8 f.stream f.data], noA, 0)
  | hello (h : Ih s) (hf : Gc f = true) (hp : s.phase = 0) (hk : f.kind = 1) : Yo s f r now (Session.mk 1 f.data s.handle s.a s.b s.opn, [Frame.mk 2 f.stream (Ol s.a s.b).1], noA, 0)
  | dies (h : Ih s) (hf : Gc f = true) (hp : s.phase ≠ 3) (hk : f.kind ≠ 8) (hn : ¬ qJ s f r now) (hm : ¬ AH4 s f r) : Yo s f r now (AS1 s, [], AS2, 0)
  | ready (h : Ih s) (hf : Gc f = true) (hc : qJ s f r now) : Yo s f r now (Session.mk 2 s.name (Ct r s.name).1.handle s.a s.b s.opn, [Frame.mk 1 f.stream s.name], Act.mk 7 0 ([] : Ai) 0 (Bp.mk 0 0), 0)
  | opened (h : Ih s) (hf : Gc f = true) (hc : AH4 s f r) : Yo s f r now (AS3 s f.stream, [Frame.mk 5 f.stream (Kf 4096).1], Act.mk 1 f.stream ([] : Ai) 0 (Cw f.data).1, 0)
  | refused (h : Ih s) (hf : Gc f = true) (hp : s.phase = 2) (hk : 3 ≤ f.kind ∧ f.kind ≤ 6) (hm : ¬ AH4 s f r) : Yo s f r now (s, [Frame.mk 7 f.stream ([] : Ai)], noA, 0)
  | asks (h : Ih s) (hf : Gc f = true) (hp : s.phase = 2) (hk : 4 ≤ f.kind ∧ f.kind ≤ 6) (hh : Gk s f.stream = true) (a : Act) (ha : 2 ≤ a.kind ∧ a.kind ≤ 4) (hs : a.stream = f.stream) : Yo s f r now (s, [], a, 0)
  | reset (h : Ih s) (hf : Gc f = true) (hp : s.phase = 2) (hk : f.kind = 7) (hh : Gk s f.stream = true) : Yo s f r now (Xv s f.stream, [], Act.mk 5 f.stream ([] : Ai) 0 (Bp.mk 0 0), 0)
  | gone (h : Ih s) (hf : Gc f = true) (hp : s.phase = 2) (hk : f.kind = 7) (hh : Gk s f.stream = false) : Yo s f r now (s, [], noA, 0)
end Go.Proofs.YtdnjanhdnibkfaaGreatDoor.Jd

namespace Go.Proofs.YtdnjanhdnibkfaaGreatDoor.Jd
open Go.Proofs.Tryz
set_option maxRecDepth 100000
set_option linter.unusedVariables false
set_option linter.unusedSimpArgs false
theorem hX : Vr = true := by kernel_rfl
end Go.Proofs.YtdnjanhdnibkfaaGreatDoor.Jd

namespace Go.Proofs.YtdnjanhdnibkfaaGreatDoor.Jd
open Go.Proofs.Tryz
open Go.Proofs
set_option maxRecDepth 100000
set_option linter.unusedVariables false
set_option linter.unusedSimpArgs false
theorem Ih.less {s : Session} (h : Ih s) (n : Int) : Ih (Xv s n) := ⟨h.phase, h.a, h.b, h.len, h.named, fun hp => ⟨(h.free hp).1, by show s.opn.filter _ = []; rw [(h.free hp).2]; rfl⟩, h.opn.less n⟩
theorem cD {s : Session} {n x : Int} : x ∈ (Xv s n).opn ↔ x ∈ s.opn ∧ x ≠ n := by
  show x ∈ s.opn.filter _ ↔ _
  rw [List.mem_filter]; simp
theorem tS {s : Session} {n : Int} : Gk s n = false ↔ n ∉ s.opn := by
  rw [← Ov]; cases Gk s n <;> simp
theorem R7 {s t : Session} {n : Int} (h : n ∈ s.opn ↔ n ∈ t.opn) : Gk s n = Gk t n := by
  rw [Bool.eq_iff_iff, Ov, Ov]; exact h
theorem A2 {l : List Int} (h : l.Pairwise (· < ·)) : l.Nodup := h.imp fun hab => by omega
theorem A3 {s : Session} (h : Ih s) {n : Int} (hn : n ∈ s.opn) : (Xv s n).opn.length + 1 = s.opn.length := by
  show (s.opn.filter _).length + 1 = _
  have hd := A2 (List.pairwise_cons.1 h.opn.up).2
  generalize s.opn = l at hn hd
  induction l with
  | nil => cases hn
  | cons x r ih =>
    obtain ⟨h1, h2⟩ := List.nodup_cons.1 hd
    by_cases e : x = n
    · subst e
      rw [List.filter_cons_of_neg Hs, cC (fun y hy e => h1 (by rw [← e]; exact hy))]; rfl
    · rw [List.filter_cons_of_pos (by simpa using e)]
      have := ih ((List.mem_cons.1 hn).resolve_left fun e2 => e e2.symm) h2
      simp only [List.length_cons]; omega
end Go.Proofs.YtdnjanhdnibkfaaGreatDoor.Jd

namespace Go.Proofs.YtdnjanhdnibkfaaGreatDoor.Jd
open Go.Proofs.Tryz
set_option maxRecDepth 100000
set_option linter.unusedVariables false
set_option linter.unusedSimpArgs false
theorem Ru (s : Session) (stream other : Int) : Gy s stream other = true := by
  unfold Gy
  simp only [hX, if_true]
  generalize Ee s = t
  rw [lJ]
  cases h1 : Gd t with
  | false => simp
  | true =>
    cases h2 : Gk t stream with
    | false => simp
    | true =>
      have hr := (Xu t).1 h1
      have hm := (Ov t stream).1 h2
      have hl := A3 hr hm
      have e1 : Gd (Xv t stream) = true := (Xu _).2 (hr.less stream)
      have e2 : Gk (Xv t stream) stream = false := tS.2 fun h => (cD.1 h).2 rfl
      simp only [if_true, ne_eq, not_true_eq_false, if_false, e1, e2, Bool.not_false]
      by_cases e : other = stream
      · rw [if_pos e]; exact decide_eq_true z8
      · rw [if_neg e]
        have e3 : Gk t other = Gk (Xv t stream) other := R7 ⟨fun h => cD.2 ⟨h, e⟩, fun h => (cD.1 h).1⟩
        rw [e3]
        simp only [BEq.rfl, if_true]
        exact decide_eq_true z8
end Go.Proofs.YtdnjanhdnibkfaaGreatDoor.Jd

