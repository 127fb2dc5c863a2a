/- Part of the proofs of this seat: walks and plain facts. No condition. -/
import Derived.Test.YtdnjanhdnibkfaaGreatDoorA0
import Derived.Test.YtdnjanhdnibkfaaGreatDoorProg
import Derived.Test.YtdnjanhdnibkfaaGreatDoorRows
import Derived.ChangeMaps5
import Derived.Test.YtdnjanhdnibkfaaGreatDoorA4
import Derived.Test.YtdnjanhdnibkfaaGreatDoorA1
import Derived.Test.YtdnjanhdnibkfaaGreatDoorA2
import Derived.Test.YtdnjanhdnibkfaaGreatDoorA3
namespace Go.Proofs.YtdnjanhdnibkfaaGreatDoor.Jd
open Go.Proofs.Tryz
open Go.Proofs
open Go.RowKit (Below)
set_option maxRecDepth 100000
set_option maxHeartbeats 8000000
set_option linter.unusedVariables false
set_option linter.unusedSimpArgs false
def Y0 (x : Frame) : List Value := [vi x.kind, vi x.stream, Value.string (bs x.data)]
theorem Bj : Ed Y0 3 := ⟨by omega, fun _ => rfl, fun _ => rfl⟩
theorem zQ : Bl Tryz.prog 43 1 1 := fun r k w => by simp [Instr.fieldAt, Instr.sureAddr, fieldPlace, Bc]
theorem Jn : Bl Tryz.prog 96 0 0 := fun r k w => by simp [Instr.fieldAt, Instr.sureAddr, fieldPlace, Bc]
theorem iA : Bl Tryz.prog 96 1 7 := fun r k w => by simp [Instr.fieldAt, Instr.sureAddr, fieldPlace, Bc]
theorem zR : Bl Tryz.prog 96 2 10 := fun r k w => by simp [Instr.fieldAt, Instr.sureAddr, fieldPlace, Bc]
theorem AO7 : Bl Tryz.prog 96 3 15 := fun r k w => by simp [Instr.fieldAt, Instr.sureAddr, fieldPlace, Bc]
theorem zS : Bl Tryz.prog 96 4 16 := fun r k w => by simp [Instr.fieldAt, Instr.sureAddr, fieldPlace, Bc]
theorem zT : Bl Tryz.prog 96 5 17 := fun r k w => by simp [Instr.fieldAt, Instr.sureAddr, fieldPlace, Bc]
theorem Y1 : Fh Tryz.prog 43 [(0, 1), (1, 1), (2, 1), (3, 1), (4, 2)] := ⟨_, fun w => runUnderlying43 w, fun w => by simp⟩
theorem BK1 : Fh Tryz.prog 96 [(0, 7), (7, 3), (10, 5), (15, 1), (16, 1), (17, 6)] := ⟨_, fun w => runUnderlying96 w, fun w => by simp⟩
theorem Jq : Ty Tryz.prog 28 3 32 (Value.agg [(vi 0), (vi 0), (vt ([] : An))].toArray) := ⟨⟨Tryz.t28, by kernel_rfl, rfl, rfl, rfl⟩, rfl⟩
theorem Pc (w : World) {s_opn_a : Option Addr} {s_opn_c : Nat} {r_Sg_a : Option Addr} {r_Sg_c : Nat} {r_Su_a : Option Addr} {r_Su_c : Nat} {r_Sf_a : Option Addr} {r_Sf_c : Nat} {r_l_a : Option Addr} {r_l_c : Nat} {r_l_t : List TA} {ea0 : Addr} {ea1 : Addr} {ea2 : Addr} {ea3 : Addr} {ea4 : Addr} {ea5 : Addr} {ea6 : Addr} {ea7 : Addr} {ea8 : Addr} {ea9 : Addr} {ea10 : Addr} {ea11 : Addr} {ea12 : Addr} {ea13 : Addr} {ea14 : Addr} {ea15 : Addr} {s : Session} {f : Frame} {r : Bk} {now : Int} (h_s_opn : Sl w eI 1 s_opn_a s.opn) (n_s_opn : s.opn.length ≤ 1000) (h_r_Sg : Sl w eI 1 r_Sg_a r.slots.gens) (n_r_Sg : r.slots.gens.length ≤ 1000) (h_r_Su : Sl w eB 1 r_Su_a r.slots.used) (n_r_Su : r.slots.used.length ≤ 1000) (h_r_Sf : Sl w eI 1 r_Sf_a r.slots.free) (n_r_Sf : r.slots.free.length ≤ 1000) (h_r_l : Yz w Ef 8 DT r_l_a r.l r_l_t) (n_r_l : r.l.length ≤ 1000) (k_r_l : r.l.length ≤ r_l_c) (hG : Gl w) (hE : Er w ea0 ea1 ea2 ea3 ea4 ea5 ea6 ea7 ea8 ea9 ea10 ea11 ea12 ea13 ea14 ea15) (hsm : Fs r.l) : Calls Tryz.prog 14 (List.toArray [(Value.agg [(vi s.phase), (vt s.name), (vi s.handle.slot), (vi s.handle.gen), (vi s.a), (vi s.b), (vs s_opn_a s.opn.length s_opn_c)].toArray), (Value.agg [(vi f.kind), (vi f.stream), (vt f.data)].toArray), (Value.agg [(vs r_Sg_a r.slots.gens.length r_Sg_c), (vs r_Su_a r.slots.used.length r_Su_c), (vs r_Sf_a r.slots.free.length r_Sf_c), (vs r_l_a r.l.length r_l_c), (vi r.seq)].toArray), (vi now)]) w fun e w2 => ∃ a1 : Option Addr, ∃ c1 : Nat, ∃ a2 : Option Addr, ∃ c2 : Nat, ∃ B : Av, e = .returned (Value.tuple [(Value.agg [(vi ((Aj s f r now).1.phase)), (vt ((Aj s f r now).1.name)), (vi ((Aj s f r now).1.handle.slot)), (vi ((Aj s f r now).1.handle.gen)), (vi ((Aj s f r now).1.a)), (vi ((Aj s f r now).1.b)), (vs a1 ((Aj s f r now).1.opn.length) c1)].toArray), (vs a2 ((Aj s f r now).2.1.length) c2), (Value.agg [(vi ((Aj s f r now).2.2.1.kind)), (vi ((Aj s f r now).2.2.1.stream)), (vt ((Aj s f r now).2.2.1.data)), (vi ((Aj s f r now).2.2.1.n)), (vi ((Aj s f r now).2.2.1.target.addr)), (vi ((Aj s f r now).2.2.1.target.port))].toArray), (vi ((Aj s f r now).2.2.2))].toArray) ∧ Ej w w2 B ∧ Hd B eI 1 a1 (Aj s f r now).1.opn ∧ Hd B Y0 3 a2 (Aj s f r now).2.1 ∧ (Aj s f r now).1.opn.length ≤ 1000 ∧ (Aj s f r now).2.1.length ≤ 10 := by
 have hF := Is.refl (Aj s f r now)
 refine enter func14 ntmps14 (h := ?_)
 refine Z2 ?_
 refine Ak Ag oH (k := fun r1 hr1 => ?_)
 refine Ak Ag Ll (k := fun r2 hr2 => ?_)
 refine Ak Ag mH (k := fun r3 hr3 => ?_)
 refine Ak Ag mG (k := fun r4 hr4 => ?_)
 refine Mr ?_
 refine Ak Ag z36 (k := fun r5 hr5 => ?_)
 refine Z1 ?_
 refine yI ?_
 refine rE ?_
 refine Cy (Ac call22) (fun w1 hw1 => Pv w1 (s := s) (h_s_opn := (Cl.of_base h_s_opn) w1 hw1) (n_s_opn := z9)) (k := ?_)
 refine Af Hi (k := ?_)
 refine Z1 ?_
 refine Dl rfl (fun hq1 => ?_) (fun hq1 => ?_)
 ·refine Cb ?_
  refine rQ ?_
  refine sU ?_
  obtain ⟨Thgl2, fhgl2, hgl2⟩ := hE.v0
  refine wG ?_
  refine rU ?_
  refine Ib ?_
  obtain ⟨Thgl3, fhgl3, hgl3⟩ := hE.v0
  refine sO ?_
  refine A6 ?_
  refine aD ?_
  refine Bd results37 z0 ?_
  refine fC ?_
  refine fI ?_
  refine Aa results14 (Bw.agg isAgg26 sizeOf26 rfl me rfl (Bw.tmp rfl (Bw.agg isAgg43 sizeOf43 rfl me rfl z0))) (fun w1 hw1 => ?_)
  exact ⟨none, 0, none, 0, [], (rq (hF.t hq1)), (hw1.fresh_out.sub Mo), (rn (hF.t hq1)), (rn (hF.t hq1)), (by rw [(hF.t hq1).eq]; first | exact lb | (rw [Ap z3]; omega)), (by rw [(hF.t hq1).eq]; first | exact lb | (rw [Ap z3]; omega))⟩
 have hfhq1 := Ry J8
 refine Z2 ?_
 refine Af z60 (k := ?_)
 refine Cy (Ac call30) (fun w1 hw1 => Zg w1 (f := f)) (k := ?_)
 refine Af Hi (k := ?_)
 refine Z1 ?_
 refine Dl rfl (fun hq4 => ?_) (fun hq4 => ?_)
 ·refine Cb ?_
  refine rQ ?_
  refine sU ?_
  obtain ⟨Thgl5, fhgl5, hgl5⟩ := hE.v1
  refine D6 ?_
  refine rU ?_
  refine Ib ?_
  obtain ⟨Thgl6, fhgl6, hgl6⟩ := hE.v0
  refine sP ?_
  refine Cy (args := [(Value.iface 400 (.pointer (some ea1))), (Value.iface 400 (.pointer (some ea0)))]) (Ac call81) (fun w1 hw1 => Jb w1 hE.n1_0 (hE.ext hw1.ext_out).b1 (hE.ext hw1.ext_out).b0) (k := ?_)
  refine Z1 ?_
  refine Va ?_
  obtain ⟨Thgl7, fhgl7, hgl7⟩ := hE.v1
  refine wF ?_
  refine Cy (args := [(Value.iface 400 (.pointer (some ea1))), (Value.iface 400 (.pointer (some ea1)))]) (Ac call81) (fun w1 hw1 => Ih w1) (k := ?_)
  refine Z1 ?_
  refine aD ?_
  refine Bd results37 z0 ?_
  refine fC ?_
  refine fI ?_
  refine Aa results14 (Bw.agg isAgg26 sizeOf26 rfl me rfl (Bw.tmp rfl (Bw.agg isAgg43 sizeOf43 rfl me rfl z0))) (fun w1 hw1 => ?_)
  exact ⟨none, 0, none, 0, [], (rq ((hF.f hq1).t hq4)), (hw1.fresh_out.sub Mo), (rn ((hF.f hq1).t hq4)), (rn ((hF.f hq1).t hq4)), (by rw [((hF.f hq1).t hq4).eq]; first | exact lb | (rw [Ap z3]; omega)), (by rw [((hF.f hq1).t hq4).eq]; first | exact lb | (rw [Ap z3]; omega))⟩
 have hfhq4 := dY (by simpa using hq4)
 refine Cg ?_
 refine kX ?_
 refine rE ?_
 refine A9 ?_
 refine Ck ?_
 refine Af (Cx (cs := [_, _, _, _, _, _, _, _, _, _, _, _, _, _, _, _, _, _, _, _, _, _, _]) zeroValue96 BK1) (k := ?_)
 refine Ak Ag (Lo (l := [_, _, _, _, _, _, _, _, _, _, _, _, _, _, _, _, _, _, _, _, _, _, _])) (k := fun r6 hr6 => ?_)
 refine Ik ?_
 refine Dk _ (sk (sk (sk (sd (sk (sk sz)))))) ?_
 refine Sd ?_
 refine Yl ?_
 refine Z72 ?_
 refine AF9 ?_
 refine Qb ?_
 refine bH (n := s.opn.length) (x0 := default) Fq underlying24 Ba rfl ⟨by omega, by omega⟩ (k := fun ax1 Bx1 hox1 => ?_)
 refine Ji ?_
 refine gQ (n := s.opn.length) Fq underlying24 Ba hox1 q0 z46 Ij rfl (kk := fun Bx2 hox2 => ?_)
 refine AI7 ?_
 refine Yl ?_
 refine Af (Al Oi) (k := ?_)
 refine K9 ?_
 refine Z2 ?_
 refine iJ ?_
 refine iP ?_
 refine Bi rfl (fun hq8 => ?_) (fun hq8 => ?_)
 ·refine Cb ?_
  refine Jt ?_
  refine Yl ?_
  refine D7 ?_
  refine sU ?_
  refine fC ?_
  refine Rg ?_
  refine Aa results14 (Bw.agg isAgg26 sizeOf26 rfl me rfl (Bw.tmp rfl (Bw.agg isAgg43 sizeOf43 rfl me rfl z0))) (fun w1 hw1 => ?_)
  exact ⟨ax1, s.opn.length, none, 0, Bx2, (rq (((hF.f hq1).f hq4).pos hq8)), (Ax (L := Bx2) (hw1.perm (List.Perm.refl _)) rfl.symm), (by rw [(((hF.f hq1).f hq4).pos hq8).eq]; exact (hox2.slb Ba)), (rn (((hF.f hq1).f hq4).pos hq8)), (by rw [(((hF.f hq1).f hq4).pos hq8).eq]; first | exact lb | (rw [Ap z3]; omega)), (by rw [(((hF.f hq1).f hq4).pos hq8).eq]; first | exact lb | (rw [Ap z3]; omega))⟩
 refine Yq ?_
 refine Eh mixed 11 [(true, 0), (true, 1), (true, 3), (true, 4), (false, 2), (true, 5), (true, 6), (true, 7), (true, 8), (true, 9), (true, 10)] z2 ?_
 refine Be z75 (k := ?_)
 refine Yr ?_
 refine Be (Al Ww) (k := ?_)
 refine Yr ?_
 refine pP (args := [_]) (Ac call39) func39 ntmps39 ?_
 refine Sk _ (eqp nE) ?_
 refine Lj ?_
 refine Nj ?_
 refine Z2 ?_
 refine Af Tp (k := ?_)
 refine Z1 ?_
 refine Bi rfl (fun hq9 => ?_) (fun hq9 => ?_)
 ·refine Cb ?_
  refine Cp ?_
  refine Ak Ag Xy (k := fun r7 hr7 => ?_)
  refine Gm (ml := ([] : List (Int × Value))) 8 Cf runUnderlying100 runUnderlying3 (Ja.nil (enc := fun x : Int => vi x)) Ij q0 (k := fun em1 km1 hms1 => ?_)
  refine Gm (ml := ([(8, (Value.func (.func 82) [].toArray [].toArray))] : List (Int × Value))) 1 Cf runUnderlying100 runUnderlying3 hms1 Ij q0 (k := fun em2 km2 hms2 => ?_)
  refine Ck ?_
  refine fI ?_
  refine AX1 ?_
  by_cases hq10 : f.kind = 8
  ·refine Be (Dm (l := ([(8, (Value.func (.func 82) [].toArray [].toArray)), (1, (Value.func (.func 83) [].toArray [].toArray))] : List (Int × Value))) (v := (Value.func (.func 82) [].toArray [].toArray)) f.kind Cf runUnderlying100 runUnderlying3 zeroValue98 hms2 (Co hq10.symm)) (k := ?_)
   refine dB ?_
   refine aF ?_
   refine Hp ?_
   refine Bq (args := [_]) (Ac call82) func82 ntmps82 ?_
   refine Sd ?_
   refine Uu ?_
   refine iH ?_
   refine oU ?_
   refine Hg Ag kW (k := fun r8 hr8 => ?_)
   refine De ([(Frame.mk 8 f.stream f.data)] : List Frame) (List.nil_append _) Jq underlying39 Bj Bt.nil (List.Perm.refl _) (Cl.lit (xs := ([(Frame.mk 8 f.stream f.data)] : List Frame)) Bj) ⟨by omega, by omega⟩ (n := 0) (m := 1) (k := fun ax3 cx3 Bx3 hox3 => ?_)
   refine oT ?_
   refine AF0 ?_
   refine Dz ?_
   refine Dj results82 Bw.nil ?_
   refine sI ?_
   refine Aa results14 (Bw.agg isAgg26 sizeOf26 rfl me rfl (Bw.tmp rfl (Bw.agg isAgg43 sizeOf43 rfl me rfl z0))) (fun w1 hw1 => ?_)
   exact ⟨ax1, s.opn.length, ax3, cx3, (Bx2 ++ Bx3), (rq (((((hF.f hq1).f hq4).neg hq8).pos hq9).pos hq10)), (Ax (L := (Bx2 ++ Bx3)) (hw1.perm ((qb (qb q0)).trans (qd (qb (qb (qb q0)))))) (nA rfl).symm), (by rw [(((((hF.f hq1).f hq4).neg hq8).pos hq9).pos hq10).eq]; exact (hox2.slb Ba)), (by rw [(((((hF.f hq1).f hq4).neg hq8).pos hq9).pos hq10).eq]; exact (hox3.slb Bj)), (by rw [(((((hF.f hq1).f hq4).neg hq8).pos hq9).pos hq10).eq]; first | exact lb | (rw [Ap z3]; omega)), (by rw [(((((hF.f hq1).f hq4).neg hq8).pos hq9).pos hq10).eq]; first | exact lb | (rw [Ap z3]; omega))⟩
  by_cases hq11 : f.kind = 1
  rotate_left
  ·refine Be (St (l := ([(8, (Value.func (.func 82) [].toArray [].toArray)), (1, (Value.func (.func 83) [].toArray [].toArray))] : List (Int × Value))) f.kind Cf runUnderlying100 runUnderlying3 zeroValue98 hms2 ((Ai (fun e => hq10 e.symm)).trans ((Ai (fun e => hq11 e.symm)).trans Lz))) (k := ?_)
   refine dB ?_
   refine Mp ?_
   refine Cp ?_
   refine Ji ?_
   refine oM ?_
   refine Ym ?_
   refine aG ?_
   refine oK ?_
   refine pC ?_
   refine iG ?_
   refine iT ?_
   refine oV ?_
   refine Jr ?_
   refine Z46 ?_
   refine Rl ?_
   refine Aa results14 (Bw.agg isAgg26 sizeOf26 rfl me rfl (Bw.tmp rfl (Bw.agg isAgg43 sizeOf43 rfl me rfl z0))) (fun w1 hw1 => ?_)
   exact ⟨none, 0, none, 0, [], (rq ((((((hF.f hq1).f hq4).neg hq8).pos hq9).neg hq10).neg hq11)), (hw1.fresh_out.sub Mo), (rn ((((((hF.f hq1).f hq4).neg hq8).pos hq9).neg hq10).neg hq11)), (rn ((((((hF.f hq1).f hq4).neg hq8).pos hq9).neg hq10).neg hq11)), (by rw [((((((hF.f hq1).f hq4).neg hq8).pos hq9).neg hq10).neg hq11).eq]; first | exact lb | (rw [Ap z3]; omega)), (by rw [((((((hF.f hq1).f hq4).neg hq8).pos hq9).neg hq10).neg hq11).eq]; first | exact lb | (rw [Ap z3]; omega))⟩
  refine Be (Dm (l := ([(8, (Value.func (.func 82) [].toArray [].toArray)), (1, (Value.func (.func 83) [].toArray [].toArray))] : List (Int × Value))) (v := (Value.func (.func 83) [].toArray [].toArray)) f.kind Cf runUnderlying100 runUnderlying3 zeroValue98 hms2 ((Ai (fun e => hq10 e.symm)).trans (Co hq11.symm))) (k := ?_)
  refine dB ?_
  refine aF ?_
  refine Hp ?_
  refine Bq (args := [_]) (Ac call83) func83 ntmps83 ?_
  refine Hp ?_
  refine Ck ?_
  refine Uu ?_
  refine iH ?_
  refine Yl ?_
  refine Af z75 (k := ?_)
  refine Ep (Bn (l' := [_, _, _, _, _, _, _, _, _, _, _, _, _, _, _, _, _, _, _, _, _, _, _]) sizeOf3) (k := ?_)
  refine Yl ?_
  refine pF ?_
  refine Ep (Bn (l' := [_, _, _, _, _, _, _, _, _, _, _, _, _, _, _, _, _, _, _, _, _, _, _]) sizeOf9) (k := ?_)
  refine Z0 ?_
  refine Sd ?_
  refine Bq (args := [_]) (Ac call135) func135 ntmps135 ?_
  refine Z2 ?_
  refine Ik ?_
  refine vZ ?_
  refine aG ?_
  refine Z96 ?_
  have hch_32354 := Pb s.a s.b
  refine B4 ?_
  refine pB ?_
  refine Bd results135 z0 ?_
  refine oU ?_
  refine Hg Ag kW (k := fun r9 hr9 => ?_)
  refine De ([(Frame.mk 2 f.stream ((Ic s.a s.b).1))] : List Frame) (List.nil_append _) Jq underlying39 Bj Bt.nil (List.Perm.refl _) (Cl.lit (xs := ([(Frame.mk 2 f.stream ((Ic s.a s.b).1))] : List Frame)) Bj) ⟨by omega, by omega⟩ (n := 0) (m := 1) (k := fun ax4 cx4 Bx4 hox4 => ?_)
  refine oT ?_
  refine AF0 ?_
  refine Dz ?_
  refine Dj results83 Bw.nil ?_
  refine sI ?_
  refine Aa results14 (Bw.agg isAgg26 sizeOf26 rfl me rfl (Bw.tmp rfl (Bw.agg isAgg43 sizeOf43 rfl me rfl z0))) (fun w1 hw1 => ?_)
  exact ⟨ax1, s.opn.length, ax4, cx4, (Bx2 ++ Bx4), (rq ((((((hF.f hq1).f hq4).neg hq8).pos hq9).neg hq10).pos hq11)), (Ax (L := (Bx2 ++ Bx4)) (hw1.perm ((qb (qb q0)).trans (qd (qb (qb (qb q0)))))) (nA rfl).symm), (by rw [((((((hF.f hq1).f hq4).neg hq8).pos hq9).neg hq10).pos hq11).eq]; exact (hox2.slb Ba)), (by rw [((((((hF.f hq1).f hq4).neg hq8).pos hq9).neg hq10).pos hq11).eq]; exact (hox4.slb Bj)), (by rw [((((((hF.f hq1).f hq4).neg hq8).pos hq9).neg hq10).pos hq11).eq]; first | exact lb | (rw [Ap z3]; omega)), (by rw [((((((hF.f hq1).f hq4).neg hq8).pos hq9).neg hq10).pos hq11).eq]; first | exact lb | (rw [Ap z3]; omega))⟩
 refine Z2 ?_
 refine Af Tp (k := ?_)
 refine Z1 ?_
 refine Bi rfl (fun hq12 => ?_) (fun hq12 => ?_)
 ·refine Cb ?_
  refine Cp ?_
  refine Ak Ag Xy (k := fun r10 hr10 => ?_)
  refine Gm (ml := ([] : List (Int × Value))) 8 Cf runUnderlying100 runUnderlying3 (Ja.nil (enc := fun x : Int => vi x)) Ij q0 (k := fun em3 km3 hms3 => ?_)
  refine Gm (ml := ([(8, (Value.func (.func 82) [].toArray [].toArray))] : List (Int × Value))) 2 Cf runUnderlying100 runUnderlying3 hms3 Ij q0 (k := fun em4 km4 hms4 => ?_)
  refine Ck ?_
  refine fI ?_
  refine AX1 ?_
  by_cases hq13 : f.kind = 8
  ·refine Be (Dm (l := ([(8, (Value.func (.func 82) [].toArray [].toArray)), (2, (Value.func (.func 84) [].toArray [].toArray))] : List (Int × Value))) (v := (Value.func (.func 82) [].toArray [].toArray)) f.kind Cf runUnderlying100 runUnderlying3 zeroValue98 hms4 (Co hq13.symm)) (k := ?_)
   refine dB ?_
   refine aF ?_
   refine Hp ?_
   refine Bq (args := [_]) (Ac call82) func82 ntmps82 ?_
   refine Sd ?_
   refine Uu ?_
   refine iH ?_
   refine oU ?_
   refine Hg Ag kW (k := fun r11 hr11 => ?_)
   refine De ([(Frame.mk 8 f.stream f.data)] : List Frame) (List.nil_append _) Jq underlying39 Bj Bt.nil (List.Perm.refl _) (Cl.lit (xs := ([(Frame.mk 8 f.stream f.data)] : List Frame)) Bj) ⟨by omega, by omega⟩ (n := 0) (m := 1) (k := fun ax5 cx5 Bx5 hox5 => ?_)
   refine oT ?_
   refine AF0 ?_
   refine Dz ?_
   refine Dj results82 Bw.nil ?_
   refine sI ?_
   refine Aa results14 (Bw.agg isAgg26 sizeOf26 rfl me rfl (Bw.tmp rfl (Bw.agg isAgg43 sizeOf43 rfl me rfl z0))) (fun w1 hw1 => ?_)
   exact ⟨ax1, s.opn.length, ax5, cx5, (Bx2 ++ Bx5), (rq ((((((hF.f hq1).f hq4).neg hq8).neg hq9).pos hq12).pos hq13)), (Ax (L := (Bx2 ++ Bx5)) (hw1.perm ((qb (qb q0)).trans (qd (qb (qb (qb q0)))))) (nA rfl).symm), (by rw [((((((hF.f hq1).f hq4).neg hq8).neg hq9).pos hq12).pos hq13).eq]; exact (hox2.slb Ba)), (by rw [((((((hF.f hq1).f hq4).neg hq8).neg hq9).pos hq12).pos hq13).eq]; exact (hox5.slb Bj)), (by rw [((((((hF.f hq1).f hq4).neg hq8).neg hq9).pos hq12).pos hq13).eq]; first | exact lb | (rw [Ap z3]; omega)), (by rw [((((((hF.f hq1).f hq4).neg hq8).neg hq9).pos hq12).pos hq13).eq]; first | exact lb | (rw [Ap z3]; omega))⟩
  by_cases hq14 : f.kind = 2
  rotate_left
  ·refine Be (St (l := ([(8, (Value.func (.func 82) [].toArray [].toArray)), (2, (Value.func (.func 84) [].toArray [].toArray))] : List (Int × Value))) f.kind Cf runUnderlying100 runUnderlying3 zeroValue98 hms4 ((Ai (fun e => hq13 e.symm)).trans ((Ai (fun e => hq14 e.symm)).trans Lz))) (k := ?_)
   refine dB ?_
   refine Mp ?_
   refine Cp ?_
   refine Ji ?_
   refine oM ?_
   refine Ym ?_
   refine aG ?_
   refine oK ?_
   refine pC ?_
   refine iG ?_
   refine iT ?_
   refine oV ?_
   refine Jr ?_
   refine Z46 ?_
   refine Rl ?_
   refine Aa results14 (Bw.agg isAgg26 sizeOf26 rfl me rfl (Bw.tmp rfl (Bw.agg isAgg43 sizeOf43 rfl me rfl z0))) (fun w1 hw1 => ?_)
   exact ⟨none, 0, none, 0, [], (rq (((((((hF.f hq1).f hq4).neg hq8).neg hq9).pos hq12).neg hq13).neg hq14)), (hw1.fresh_out.sub Mo), (rn (((((((hF.f hq1).f hq4).neg hq8).neg hq9).pos hq12).neg hq13).neg hq14)), (rn (((((((hF.f hq1).f hq4).neg hq8).neg hq9).pos hq12).neg hq13).neg hq14)), (by rw [(((((((hF.f hq1).f hq4).neg hq8).neg hq9).pos hq12).neg hq13).neg hq14).eq]; first | exact lb | (rw [Ap z3]; omega)), (by rw [(((((((hF.f hq1).f hq4).neg hq8).neg hq9).pos hq12).neg hq13).neg hq14).eq]; first | exact lb | (rw [Ap z3]; omega))⟩
  refine Be (Dm (l := ([(8, (Value.func (.func 82) [].toArray [].toArray)), (2, (Value.func (.func 84) [].toArray [].toArray))] : List (Int × Value))) (v := (Value.func (.func 84) [].toArray [].toArray)) f.kind Cf runUnderlying100 runUnderlying3 zeroValue98 hms4 ((Ai (fun e => hq13 e.symm)).trans (Co hq14.symm))) (k := ?_)
  refine dB ?_
  refine aF ?_
  refine Hp ?_
  refine Bq (args := [_]) (Ac call84) func84 ntmps84 ?_
  refine Z3 ?_
  refine Bq (args := [_]) (Ac call136) func136 ntmps136 ?_
  refine Z2 ?_
  refine Ak Ag eG (k := fun r12 hr12 => ?_)
  refine Ik ?_
  refine pO (σ1 := List Ie) (σ2 := Option Addr) (σ3 := Nat) (σ4 := Av) (σ5 := List Eb) (σ6 := Option Addr) (σ7 := Nat) (σ8 := Av) (σ9 := Nat) (fun x_1 x_1a x_1c x_1B x_2 x_2a x_2c x_2B r293 => (x_2B ++ (x_1B ++ ((r293, oc [(vi ((Ce r s.name).1.handle.slot)), (vi ((Ce r s.name).1.handle.gen)), (vt ((Ce r s.name).1.name)), (vi ((Ce r s.name).1.state)), (vi ((Ce r s.name).1.version)), (vs x_1a x_1.length x_1c), (vs x_2a x_2.length x_2c), (vi ((Ce r s.name).1.deadline))] 50) :: ((r12, oc [(vi 0), (vi 0), (vt ([] : An)), (vi 0), (vi 0), (vs none 0 0), (vs none 0 0), (vi 0)] 50) :: ((r10, Obj.map em4 km4) :: (Bx2 ++ ((r6, oc [(vi s.phase), (vt s.name), (vi s.handle.slot), (vi s.handle.gen), (vi s.a), (vi s.b), (vs ax1 s.opn.length s.opn.length), (vi f.kind), (vi f.stream), (vt f.data), (vs r_Sg_a r.slots.gens.length r_Sg_c), (vs r_Su_a r.slots.used.length r_Su_c), (vs r_Sf_a r.slots.free.length r_Sf_c), (vs r_l_a r.l.length r_l_c), (vi r.seq), (vi now), (vs none 0 0), (vi 0), (vi 0), (vt ([] : An)), (vi 0), (vi 0), (vi 0)] 96) :: ((r5, oc [(vi 0), (vi 0), (vt ([] : An)), (vi 0), (vi 0), (vi 0)] 43) :: ((r4, oc [(vi 0), (vt ([] : An)), (vi 0), (vi 0), (vi 0), (vi 0), (vs none 0 0)] 26) :: [])))))))))) (fun x_1 x_1a x_1c x_1B x_2 x_2a x_2c x_2B r293 => [(0, (Value.pointer (some ⟨r6, 0, none⟩))), (2, (Value.pointer (some ⟨r12, 0, none⟩))), (3, (Value.bool false)), (4, (Value.pointer (some ⟨r293, 0, none⟩))), (5, (Value.bool ((Ce r s.name).2)))]) (fun x_1 x_1a x_1c x_1B x_2 x_2a x_2c x_2B r293 => Is (Is.xr2 (((((((hF.f hq1).f hq4).neg hq8).neg hq9).pos hq12).neg hq13).pos hq14)) (x_1, x_2) ∧ Bt Lb 5 84 x_1a x_1c x_1B x_1 ∧ Bt Ip 4 112 x_2a x_2c x_2B x_2 ∧ x_1.length ≤ 1000 ∧ x_2.length ≤ 1000) ?_ ?_
  ·skip
   refine AW3 ?_
   refine Ct 1 rfl z2 Qf (k := ?_)
   refine Ct 2 rfl z2 (Al zR) (k := ?_)
   refine Ct 3 rfl z2 (Ch isAgg34 sizeOf34) (k := ?_)
   refine AW4 ?_
   refine Ct 6 rfl z2 (Al Jn) (k := ?_)
   refine Ct 7 rfl z2 (Al cC) (k := ?_)
   refine Ct 8 rfl z2 (Bm isAgg9) (k := ?_)
   refine Cc [9, 13] z2 rfl (List.forall_mem_cons.2 ⟨?_, (List.forall_mem_cons.2 ⟨?_, nofun⟩)⟩)
   ·skip
    refine AJ4 ?_
    rintro w1_201 e1_201 w2_201 hw1_201 ⟨a1_201, c1_201, a2_201, c2_201, B1_201, B2_201, he_201, hf_201, ho1_201, ho2_201, hl1_201, hl2_201⟩
    refine ⟨_, _, _, he_201, hf_201, (nA rfl).symm, ?_⟩
    refine C6 ?_
    refine Cc [13] z2 rfl (List.forall_mem_cons.2 ⟨?_, nofun⟩)
    ·skip
     refine Jp rfl Ag eG (k := fun r293 hr293 => ?_)
     refine Cc [14] z2 rfl (List.forall_mem_cons.2 ⟨?_, nofun⟩)
     ·skip
      refine tR (V' := ((r293, _) :: [])) rfl z45 (k := ?_)
      refine C5 ?_
      refine AC1 ?_
      exact Jv ((Ce r s.name).1.rules) a1_201 c1_201 B1_201 ((Ce r s.name).1.creds) a2_201 c2_201 B2_201 r293 ⟨(Is.refl (Is.xr2 (((((((hF.f hq1).f hq4).neg hq8).neg hq9).pos hq12).neg hq13).pos hq14))), ho1_201, ho2_201, z73, z73⟩ se (List.Perm.refl _)
   ·skip
    refine Jp rfl Ag eG (k := fun r293 hr293 => ?_)
    refine Cc [9] z2 rfl (List.forall_mem_cons.2 ⟨?_, nofun⟩)
    ·skip
     refine AJ4 ?_
     rintro w1_201 e1_201 w2_201 hw1_201 ⟨a1_201, c1_201, a2_201, c2_201, B1_201, B2_201, he_201, hf_201, ho1_201, ho2_201, hl1_201, hl2_201⟩
     refine ⟨_, _, _, he_201, hf_201, (nA rfl).symm, ?_⟩
     refine C6 ?_
     refine Cc [14] z2 rfl (List.forall_mem_cons.2 ⟨?_, nofun⟩)
     ·skip
      refine tR (V' := ((r293, _) :: [])) rfl z45 (k := ?_)
      refine C5 ?_
      refine AC1 ?_
      exact Jv ((Ce r s.name).1.rules) a1_201 c1_201 B1_201 ((Ce r s.name).1.creds) a2_201 c2_201 B2_201 r293 ⟨(Is.refl (Is.xr2 (((((((hF.f hq1).f hq4).neg hq8).neg hq9).pos hq12).neg hq13).pos hq14))), ho1_201, ho2_201, z73, z73⟩ se (List.Perm.refl _)
  rintro x_1 x_1a x_1c x_1B x_2 x_2a x_2c x_2B r293 ⟨hJ3, hx_1, hx_2, hi4, hi5⟩
  refine Du ?_
  refine Eu ?_
  refine BF0 ?_
  refine Li ?_
  refine Fp 21 rfl (fun hq15 => ?_) (fun hq15 => ?_)
  rotate_left
  ·refine Ay 3 rfl ?_
   refine oI ?_
   refine Ay 16 rfl ?_
   refine Be Ft (k := ?_)
   refine AE0 ?_
   refine sL ?_
   refine rH ?_
   refine Kf ?_
   refine Ak Ag eG (k := fun r358 hr358 => ?_)
   refine vN ?_
   refine AC4 ?_
   refine M8 ?_
   refine Z6 ?_
   refine AH1 ?_
   refine Ym ?_
   refine AH2 ?_
   refine Z6 ?_
   refine AH6 ?_
   refine AD7 ?_
   refine Sk _ (eqp nE) ?_
   refine Z2 ?_
   refine Ik ?_
   refine vZ ?_
   refine aG ?_
   refine Z96 ?_
   have hch_32354 := Pb s.a s.b
   refine B4 ?_
   refine pB ?_
   refine Z67 ?_
   refine C0 ?_
   refine Z3 ?_
   refine D1 ?_
   refine Ab 2 rfl ?_
   refine rG ?_
   refine Tv ?_
   refine oM ?_
   refine Ym ?_
   refine aG ?_
   refine oK ?_
   refine pC ?_
   refine iG ?_
   refine iT ?_
   refine oV ?_
   refine kY ?_
   refine Ge ?_
   refine L6 ?_
   refine Jr ?_
   refine Z46 ?_
   refine Rl ?_
   refine Aa results14 (Bw.agg isAgg26 sizeOf26 rfl me rfl (Bw.tmp rfl (Bw.agg isAgg43 sizeOf43 rfl me rfl z0))) (fun w1 hw1 => ?_)
   exact ⟨none, 0, none, 0, [], (rq (((((((((hF.f hq1).f hq4).neg hq8).neg hq9).pos hq12).neg hq13).pos hq14).rn2 hJ3).f hq15)), (hw1.fresh_out.sub Mo), (rn (((((((((hF.f hq1).f hq4).neg hq8).neg hq9).pos hq12).neg hq13).pos hq14).rn2 hJ3).f hq15)), (rn (((((((((hF.f hq1).f hq4).neg hq8).neg hq9).pos hq12).neg hq13).pos hq14).rn2 hJ3).f hq15)), (by rw [(((((((((hF.f hq1).f hq4).neg hq8).neg hq9).pos hq12).neg hq13).pos hq14).rn2 hJ3).f hq15).eq]; first | exact lb | (rw [Ap z3]; omega)), (by rw [(((((((((hF.f hq1).f hq4).neg hq8).neg hq9).pos hq12).neg hq13).pos hq14).rn2 hJ3).f hq15).eq]; first | exact lb | (rw [Ap z3]; omega))⟩
  refine Bu (Al Qp) (k := ?_)
  refine lC ?_
  refine eJ ?_
  refine Dg 26 rfl (fun hq16 => ?_) (fun hq16 => ?_)
  rotate_left
  ·refine Ay 16 rfl ?_
   refine Be Ft (k := ?_)
   refine AE0 ?_
   refine sL ?_
   refine rH ?_
   refine Kf ?_
   refine Ak Ag eG (k := fun r357 hr357 => ?_)
   refine vN ?_
   refine AC4 ?_
   refine M8 ?_
   refine Z6 ?_
   refine AH1 ?_
   refine Ym ?_
   refine AH2 ?_
   refine Z6 ?_
   refine AH6 ?_
   refine AD7 ?_
   refine Sk _ (eqp nE) ?_
   refine Z2 ?_
   refine Ik ?_
   refine vZ ?_
   refine aG ?_
   refine Z96 ?_
   have hch_32354 := Pb s.a s.b
   refine B4 ?_
   refine pB ?_
   refine Z67 ?_
   refine C0 ?_
   refine Z3 ?_
   refine D1 ?_
   refine Ab 2 rfl ?_
   refine rG ?_
   refine Tv ?_
   refine oM ?_
   refine Ym ?_
   refine aG ?_
   refine oK ?_
   refine pC ?_
   refine iG ?_
   refine iT ?_
   refine oV ?_
   refine kY ?_
   refine Ge ?_
   refine L6 ?_
   refine Jr ?_
   refine Z46 ?_
   refine Rl ?_
   refine Aa results14 (Bw.agg isAgg26 sizeOf26 rfl me rfl (Bw.tmp rfl (Bw.agg isAgg43 sizeOf43 rfl me rfl z0))) (fun w1 hw1 => ?_)
   exact ⟨none, 0, none, 0, [], (rq ((((((((((hF.f hq1).f hq4).neg hq8).neg hq9).pos hq12).neg hq13).pos hq14).rn2 hJ3).t hq15).neg hq16)), (hw1.fresh_out.sub Mo), (rn ((((((((((hF.f hq1).f hq4).neg hq8).neg hq9).pos hq12).neg hq13).pos hq14).rn2 hJ3).t hq15).neg hq16)), (rn ((((((((((hF.f hq1).f hq4).neg hq8).neg hq9).pos hq12).neg hq13).pos hq14).rn2 hJ3).t hq15).neg hq16)), (by rw [((((((((((hF.f hq1).f hq4).neg hq8).neg hq9).pos hq12).neg hq13).pos hq14).rn2 hJ3).t hq15).neg hq16).eq]; first | exact lb | (rw [Ap z3]; omega)), (by rw [((((((((((hF.f hq1).f hq4).neg hq8).neg hq9).pos hq12).neg hq13).pos hq14).rn2 hJ3).t hq15).neg hq16).eq]; first | exact lb | (rw [Ap z3]; omega))⟩
  refine K7 ?_
  refine Bu (Al Jn) (k := ?_)
  refine Bu z75 (k := ?_)
  refine L5 ?_
  refine Dg 33 rfl (fun hq17 => ?_) (fun hq17 => ?_)
  ·refine Ay 8 rfl ?_
   refine iX ?_
   refine Be Kv (k := ?_)
   refine AE0 ?_
   refine sL ?_
   refine rH ?_
   refine Kf ?_
   refine Ak Ag eG (k := fun r353 hr353 => ?_)
   refine vN ?_
   refine AC4 ?_
   refine M8 ?_
   refine Z6 ?_
   refine AH1 ?_
   refine Ym ?_
   refine AH2 ?_
   refine Z6 ?_
   refine AH6 ?_
   refine AD7 ?_
   refine Sk _ (eqp nE) ?_
   refine Z2 ?_
   refine Ik ?_
   refine vZ ?_
   refine aG ?_
   refine Z96 ?_
   have hch_32354 := Pb s.a s.b
   refine B4 ?_
   refine pB ?_
   refine Z67 ?_
   refine C0 ?_
   refine Z3 ?_
   refine D1 ?_
   refine sG ?_
   refine Pe ?_
   refine Dl rfl (fun hq18 => ?_) (fun hq18 => ?_)
   ·refine Cb ?_
    refine Jt ?_
    refine oM ?_
    refine Ym ?_
    refine aG ?_
    refine oK ?_
    refine pC ?_
    refine iG ?_
    refine iT ?_
    refine oV ?_
    refine kY ?_
    refine Ge ?_
    refine L6 ?_
    refine Jr ?_
    refine Z46 ?_
    refine Rl ?_
    refine Aa results14 (Bw.agg isAgg26 sizeOf26 rfl me rfl (Bw.tmp rfl (Bw.agg isAgg43 sizeOf43 rfl me rfl z0))) (fun w1 hw1 => ?_)
    exact ⟨none, 0, none, 0, [], (rq ((((((((((((hF.f hq1).f hq4).neg hq8).neg hq9).pos hq12).neg hq13).pos hq14).rn2 hJ3).t hq15).pos hq16).pos hq17).t hq18)), (hw1.fresh_out.sub Mo), (rn ((((((((((((hF.f hq1).f hq4).neg hq8).neg hq9).pos hq12).neg hq13).pos hq14).rn2 hJ3).t hq15).pos hq16).pos hq17).t hq18)), (rn ((((((((((((hF.f hq1).f hq4).neg hq8).neg hq9).pos hq12).neg hq13).pos hq14).rn2 hJ3).t hq15).pos hq16).pos hq17).t hq18)), (by rw [((((((((((((hF.f hq1).f hq4).neg hq8).neg hq9).pos hq12).neg hq13).pos hq14).rn2 hJ3).t hq15).pos hq16).pos hq17).t hq18).eq]; first | exact lb | (rw [Ap z3]; omega)), (by rw [((((((((((((hF.f hq1).f hq4).neg hq8).neg hq9).pos hq12).neg hq13).pos hq14).rn2 hJ3).t hq15).pos hq16).pos hq17).t hq18).eq]; first | exact lb | (rw [Ap z3]; omega))⟩
   refine BG4 ?_
   refine Li ?_
   refine AW8 ?_
   refine vI ?_
   refine BH1 ?_
   refine vI ?_
   refine BH0 ?_
   refine Sm ?_
   refine Hw (nC nE) ?_
   refine Jr ?_
   refine Dk _ (sk (sd (sx (sx (sk (sa (sk (sk sz)))))))) ?_
   refine Sd ?_
   refine Yl ?_
   refine AH3 ?_
   refine oU ?_
   refine Hg Ag kW (k := fun r354 hr354 => ?_)
   refine De ([(Frame.mk 1 f.stream s.name)] : List Frame) (List.nil_append _) Jq underlying39 Bj Bt.nil (List.Perm.refl _) (Cl.lit (xs := ([(Frame.mk 1 f.stream s.name)] : List Frame)) Bj) ⟨by omega, by omega⟩ (n := 0) (m := 1) (k := fun ax346 cx346 Bx346 hox346 => ?_)
   refine oT ?_
   refine Cn _ (sa (sd (sk (sk (sa (sk (sk sz))))))) ?_
   refine Dj results134 Bw.nil ?_
   refine Z0 ?_
   refine iT ?_
   refine Dz ?_
   refine Dj results84 Bw.nil ?_
   refine Jr ?_
   refine BF6 ?_
   refine Aa results14 (Bw.agg isAgg26 sizeOf26 rfl me rfl (Bw.tmp rfl (Bw.agg isAgg43 sizeOf43 rfl me rfl z0))) (fun w1 hw1 => ?_)
   exact ⟨ax1, s.opn.length, ax346, cx346, (Bx2 ++ Bx346), (rq ((((((((((((hF.f hq1).f hq4).neg hq8).neg hq9).pos hq12).neg hq13).pos hq14).rn2 hJ3).t hq15).pos hq16).pos hq17).f hq18)), (Ax (L := (Bx2 ++ Bx346)) (hw1.perm ((qb (qb q0)).trans (qd (qb (qb (qb (qb q0))))))) (nA rfl).symm), (by rw [((((((((((((hF.f hq1).f hq4).neg hq8).neg hq9).pos hq12).neg hq13).pos hq14).rn2 hJ3).t hq15).pos hq16).pos hq17).f hq18).eq]; exact (hox2.slb Ba)), (by rw [((((((((((((hF.f hq1).f hq4).neg hq8).neg hq9).pos hq12).neg hq13).pos hq14).rn2 hJ3).t hq15).pos hq16).pos hq17).f hq18).eq]; exact (hox346.slb Bj)), (by rw [((((((((((((hF.f hq1).f hq4).neg hq8).neg hq9).pos hq12).neg hq13).pos hq14).rn2 hJ3).t hq15).pos hq16).pos hq17).f hq18).eq]; first | exact lb | (rw [Ap z3]; omega)), (by rw [((((((((((((hF.f hq1).f hq4).neg hq8).neg hq9).pos hq12).neg hq13).pos hq14).rn2 hJ3).t hq15).pos hq16).pos hq17).f hq18).eq]; first | exact lb | (rw [Ap z3]; omega))⟩
  refine Bu (Al Lc) (k := ?_)
  refine Bu z51 (k := ?_)
  refine K7 ?_
  refine Bu (Al Jn) (k := ?_)
  refine Bu (Al Wx) (k := ?_)
  refine Bu z51 (k := ?_)
  refine Bu z81 (k := ?_)
  refine Ub ?_
  refine Be Kv (k := ?_)
  refine AE0 ?_
  refine sL ?_
  refine rH ?_
  refine Kf ?_
  refine Ak Ag eG (k := fun r355 hr355 => ?_)
  refine vN ?_
  refine AC4 ?_
  refine M8 ?_
  refine Z6 ?_
  refine AH1 ?_
  refine Ym ?_
  refine AH2 ?_
  refine Z6 ?_
  refine AH6 ?_
  refine AD7 ?_
  refine Sk _ (eqp nE) ?_
  refine Z2 ?_
  refine Ik ?_
  refine vZ ?_
  refine aG ?_
  refine Z96 ?_
  have hch_32354 := Pb s.a s.b
  refine B4 ?_
  refine pB ?_
  refine Z67 ?_
  refine C0 ?_
  refine Z3 ?_
  refine Af dG (k := ?_)
  refine Ck ?_
  refine Ao 35 rfl (fun hq19 => ?_) (fun hq19 => ?_)
  ·refine Ab 2 rfl ?_
   refine rG ?_
   refine Tv ?_
   refine oM ?_
   refine Ym ?_
   refine aG ?_
   refine oK ?_
   refine pC ?_
   refine iG ?_
   refine iT ?_
   refine oV ?_
   refine kY ?_
   refine Ge ?_
   refine L6 ?_
   refine Jr ?_
   refine Z46 ?_
   refine Rl ?_
   refine Aa results14 (Bw.agg isAgg26 sizeOf26 rfl me rfl (Bw.tmp rfl (Bw.agg isAgg43 sizeOf43 rfl me rfl z0))) (fun w1 hw1 => ?_)
   exact ⟨none, 0, none, 0, [], (rq ((((((((((((hF.f hq1).f hq4).neg hq8).neg hq9).pos hq12).neg hq13).pos hq14).rn2 hJ3).t hq15).pos hq16).neg hq17).pos hq19)), (hw1.fresh_out.sub Mo), (rn ((((((((((((hF.f hq1).f hq4).neg hq8).neg hq9).pos hq12).neg hq13).pos hq14).rn2 hJ3).t hq15).pos hq16).neg hq17).pos hq19)), (rn ((((((((((((hF.f hq1).f hq4).neg hq8).neg hq9).pos hq12).neg hq13).pos hq14).rn2 hJ3).t hq15).pos hq16).neg hq17).pos hq19)), (by rw [((((((((((((hF.f hq1).f hq4).neg hq8).neg hq9).pos hq12).neg hq13).pos hq14).rn2 hJ3).t hq15).pos hq16).neg hq17).pos hq19).eq]; first | exact lb | (rw [Ap z3]; omega)), (by rw [((((((((((((hF.f hq1).f hq4).neg hq8).neg hq9).pos hq12).neg hq13).pos hq14).rn2 hJ3).t hq15).pos hq16).neg hq17).pos hq19).eq]; first | exact lb | (rw [Ap z3]; omega))⟩
  refine sG ?_
  refine Pe ?_
  refine Dl rfl (fun hq20 => ?_) (fun hq20 => ?_)
  ·refine Cb ?_
   refine Jt ?_
   refine oM ?_
   refine Ym ?_
   refine aG ?_
   refine oK ?_
   refine pC ?_
   refine iG ?_
   refine iT ?_
   refine oV ?_
   refine kY ?_
   refine Ge ?_
   refine L6 ?_
   refine Jr ?_
   refine Z46 ?_
   refine Rl ?_
   refine Aa results14 (Bw.agg isAgg26 sizeOf26 rfl me rfl (Bw.tmp rfl (Bw.agg isAgg43 sizeOf43 rfl me rfl z0))) (fun w1 hw1 => ?_)
   exact ⟨none, 0, none, 0, [], (rq (((((((((((((hF.f hq1).f hq4).neg hq8).neg hq9).pos hq12).neg hq13).pos hq14).rn2 hJ3).t hq15).pos hq16).neg hq17).neg hq19).t hq20)), (hw1.fresh_out.sub Mo), (rn (((((((((((((hF.f hq1).f hq4).neg hq8).neg hq9).pos hq12).neg hq13).pos hq14).rn2 hJ3).t hq15).pos hq16).neg hq17).neg hq19).t hq20)), (rn (((((((((((((hF.f hq1).f hq4).neg hq8).neg hq9).pos hq12).neg hq13).pos hq14).rn2 hJ3).t hq15).pos hq16).neg hq17).neg hq19).t hq20)), (by rw [(((((((((((((hF.f hq1).f hq4).neg hq8).neg hq9).pos hq12).neg hq13).pos hq14).rn2 hJ3).t hq15).pos hq16).neg hq17).neg hq19).t hq20).eq]; first | exact lb | (rw [Ap z3]; omega)), (by rw [(((((((((((((hF.f hq1).f hq4).neg hq8).neg hq9).pos hq12).neg hq13).pos hq14).rn2 hJ3).t hq15).pos hq16).neg hq17).neg hq19).t hq20).eq]; first | exact lb | (rw [Ap z3]; omega))⟩
  refine BG4 ?_
  refine Li ?_
  refine AW8 ?_
  refine vI ?_
  refine BH1 ?_
  refine vI ?_
  refine BH0 ?_
  refine Sm ?_
  refine Hw (nC nE) ?_
  refine Jr ?_
  refine Dk _ (sk (sd (sx (sx (sk (sa (sk (sk sz)))))))) ?_
  refine Sd ?_
  refine Yl ?_
  refine AH3 ?_
  refine oU ?_
  refine Hg Ag kW (k := fun r356 hr356 => ?_)
  refine De ([(Frame.mk 1 f.stream s.name)] : List Frame) (List.nil_append _) Jq underlying39 Bj Bt.nil (List.Perm.refl _) (Cl.lit (xs := ([(Frame.mk 1 f.stream s.name)] : List Frame)) Bj) ⟨by omega, by omega⟩ (n := 0) (m := 1) (k := fun ax347 cx347 Bx347 hox347 => ?_)
  refine oT ?_
  refine Cn _ (sa (sd (sk (sk (sa (sk (sk sz))))))) ?_
  refine Dj results134 Bw.nil ?_
  refine Z0 ?_
  refine iT ?_
  refine Dz ?_
  refine Dj results84 Bw.nil ?_
  refine Jr ?_
  refine BF6 ?_
  refine Aa results14 (Bw.agg isAgg26 sizeOf26 rfl me rfl (Bw.tmp rfl (Bw.agg isAgg43 sizeOf43 rfl me rfl z0))) (fun w1 hw1 => ?_)
  exact ⟨ax1, s.opn.length, ax347, cx347, (Bx2 ++ Bx347), (rq (((((((((((((hF.f hq1).f hq4).neg hq8).neg hq9).pos hq12).neg hq13).pos hq14).rn2 hJ3).t hq15).pos hq16).neg hq17).neg hq19).f hq20)), (Ax (L := (Bx2 ++ Bx347)) (hw1.perm ((qb (qb q0)).trans (qd (qb (qb (qb (qb q0))))))) (nA rfl).symm), (by rw [(((((((((((((hF.f hq1).f hq4).neg hq8).neg hq9).pos hq12).neg hq13).pos hq14).rn2 hJ3).t hq15).pos hq16).neg hq17).neg hq19).f hq20).eq]; exact (hox2.slb Ba)), (by rw [(((((((((((((hF.f hq1).f hq4).neg hq8).neg hq9).pos hq12).neg hq13).pos hq14).rn2 hJ3).t hq15).pos hq16).neg hq17).neg hq19).f hq20).eq]; exact (hox347.slb Bj)), (by rw [(((((((((((((hF.f hq1).f hq4).neg hq8).neg hq9).pos hq12).neg hq13).pos hq14).rn2 hJ3).t hq15).pos hq16).neg hq17).neg hq19).f hq20).eq]; first | exact lb | (rw [Ap z3]; omega)), (by rw [(((((((((((((hF.f hq1).f hq4).neg hq8).neg hq9).pos hq12).neg hq13).pos hq14).rn2 hJ3).t hq15).pos hq16).neg hq17).neg hq19).f hq20).eq]; first | exact lb | (rw [Ap z3]; omega))⟩
 refine Cg ?_
 refine aH ?_
 refine Ak Ag Xy (k := fun r359 hr359 => ?_)
 refine Gm (ml := ([] : List (Int × Value))) 8 Cf runUnderlying100 runUnderlying3 (Ja.nil (enc := fun x : Int => vi x)) Ij q0 (k := fun em5 km5 hms5 => ?_)
 refine Gm (ml := ([(8, (Value.func (.func 82) [].toArray [].toArray))] : List (Int × Value))) 3 Cf runUnderlying100 runUnderlying3 hms5 Ij q0 (k := fun em6 km6 hms6 => ?_)
 refine Gm (ml := ([(8, (Value.func (.func 82) [].toArray [].toArray)), (3, (Value.func (.func 85) [].toArray [].toArray))] : List (Int × Value))) 4 Cf runUnderlying100 runUnderlying3 hms6 Ij q0 (k := fun em7 km7 hms7 => ?_)
 refine Gm (ml := ([(8, (Value.func (.func 82) [].toArray [].toArray)), (3, (Value.func (.func 85) [].toArray [].toArray)), (4, (Value.func (.func 86) [].toArray [].toArray))] : List (Int × Value))) 5 Cf runUnderlying100 runUnderlying3 hms7 Ij q0 (k := fun em8 km8 hms8 => ?_)
 refine Gm (ml := ([(8, (Value.func (.func 82) [].toArray [].toArray)), (3, (Value.func (.func 85) [].toArray [].toArray)), (4, (Value.func (.func 86) [].toArray [].toArray)), (5, (Value.func (.func 87) [].toArray [].toArray))] : List (Int × Value))) 6 Cf runUnderlying100 runUnderlying3 hms8 Ij q0 (k := fun em9 km9 hms9 => ?_)
 refine Gm (ml := ([(8, (Value.func (.func 82) [].toArray [].toArray)), (3, (Value.func (.func 85) [].toArray [].toArray)), (4, (Value.func (.func 86) [].toArray [].toArray)), (5, (Value.func (.func 87) [].toArray [].toArray)), (6, (Value.func (.func 88) [].toArray [].toArray))] : List (Int × Value))) 7 Cf runUnderlying100 runUnderlying3 hms9 Ij q0 (k := fun em10 km10 hms10 => ?_)
 refine Ck ?_
 refine Z4 ?_
 refine AX1 ?_
 by_cases hq21 : f.kind = 8
 ·refine Be (Dm (l := ([(8, (Value.func (.func 82) [].toArray [].toArray)), (3, (Value.func (.func 85) [].toArray [].toArray)), (4, (Value.func (.func 86) [].toArray [].toArray)), (5, (Value.func (.func 87) [].toArray [].toArray)), (6, (Value.func (.func 88) [].toArray [].toArray)), (7, (Value.func (.func 89) [].toArray [].toArray))] : List (Int × Value))) (v := (Value.func (.func 82) [].toArray [].toArray)) f.kind Cf runUnderlying100 runUnderlying3 zeroValue98 hms10 (Co hq21.symm)) (k := ?_)
  refine dB ?_
  refine aF ?_
  refine Hp ?_
  refine Bq (args := [_]) (Ac call82) func82 ntmps82 ?_
  refine Sd ?_
  refine Uu ?_
  refine iH ?_
  refine oU ?_
  refine Hg Ag kW (k := fun r360 hr360 => ?_)
  refine De ([(Frame.mk 8 f.stream f.data)] : List Frame) (List.nil_append _) Jq underlying39 Bj Bt.nil (List.Perm.refl _) (Cl.lit (xs := ([(Frame.mk 8 f.stream f.data)] : List Frame)) Bj) ⟨by omega, by omega⟩ (n := 0) (m := 1) (k := fun ax348 cx348 Bx348 hox348 => ?_)
  refine oT ?_
  refine AF0 ?_
  refine Dz ?_
  refine Dj results82 Bw.nil ?_
  refine sI ?_
  refine Aa results14 (Bw.agg isAgg26 sizeOf26 rfl me rfl (Bw.tmp rfl (Bw.agg isAgg43 sizeOf43 rfl me rfl z0))) (fun w1 hw1 => ?_)
  exact ⟨ax1, s.opn.length, ax348, cx348, (Bx2 ++ Bx348), (rq ((((((hF.f hq1).f hq4).neg hq8).neg hq9).neg hq12).pos hq21)), (Ax (L := (Bx2 ++ Bx348)) (hw1.perm ((qb (qb q0)).trans (qd (qb (qb (qb q0)))))) (nA rfl).symm), (by rw [((((((hF.f hq1).f hq4).neg hq8).neg hq9).neg hq12).pos hq21).eq]; exact (hox2.slb Ba)), (by rw [((((((hF.f hq1).f hq4).neg hq8).neg hq9).neg hq12).pos hq21).eq]; exact (hox348.slb Bj)), (by rw [((((((hF.f hq1).f hq4).neg hq8).neg hq9).neg hq12).pos hq21).eq]; first | exact lb | (rw [Ap z3]; omega)), (by rw [((((((hF.f hq1).f hq4).neg hq8).neg hq9).neg hq12).pos hq21).eq]; first | exact lb | (rw [Ap z3]; omega))⟩
 by_cases hq22 : f.kind = 3
 rotate_left
 ·by_cases hq36 : f.kind = 4
  ·refine Be (Dm (l := ([(8, (Value.func (.func 82) [].toArray [].toArray)), (3, (Value.func (.func 85) [].toArray [].toArray)), (4, (Value.func (.func 86) [].toArray [].toArray)), (5, (Value.func (.func 87) [].toArray [].toArray)), (6, (Value.func (.func 88) [].toArray [].toArray)), (7, (Value.func (.func 89) [].toArray [].toArray))] : List (Int × Value))) (v := (Value.func (.func 86) [].toArray [].toArray)) f.kind Cf runUnderlying100 runUnderlying3 zeroValue98 hms10 ((Ai (fun e => hq21 e.symm)).trans ((Ai (fun e => hq22 e.symm)).trans (Co hq36.symm)))) (k := ?_)
   refine dB ?_
   refine aF ?_
   refine Hp ?_
   refine Bq (args := [_]) (Ac call86) func86 ntmps86 ?_
   refine Sd ?_
   refine Uu ?_
   refine iH ?_
   refine sU ?_
   refine Bq (args := [_, _]) (Ac call145) func145 ntmps145 ?_
   refine Z2 ?_
   refine Ak Ag J2 (k := fun r739 hr739 => ?_)
   refine Jr ?_
   refine AU9 ?_
   refine K6 ?_
   refine AC7 ?_
   refine Be Hi (k := ?_)
   refine oR ?_
   refine Dl rfl (fun hq37 => ?_) (fun hq37 => ?_)
   ·refine Cb ?_
    refine AG0 ?_
    refine Hg Ag kW (k := fun r740 hr740 => ?_)
    refine De ([(Frame.mk 7 f.stream ([] : An))] : List Frame) (List.nil_append _) Jq underlying39 Bj Bt.nil (List.Perm.refl _) (Cl.lit (xs := ([(Frame.mk 7 f.stream ([] : An))] : List Frame)) Bj) ⟨by omega, by omega⟩ (n := 0) (m := 1) (k := fun ax706 cx706 Bx706 hox706 => ?_)
    refine AG1 ?_
    refine AC6 ?_
    refine Bd results145 Bw.nil ?_
    refine Dz ?_
    refine Dj results86 Bw.nil ?_
    refine sI ?_
    refine Aa results14 (Bw.agg isAgg26 sizeOf26 rfl me rfl (Bw.tmp rfl (Bw.agg isAgg43 sizeOf43 rfl me rfl z0))) (fun w1 hw1 => ?_)
    exact ⟨ax1, s.opn.length, ax706, cx706, (Bx2 ++ Bx706), (rq (((((((((hF.f hq1).f hq4).neg hq8).neg hq9).neg hq12).neg hq21).neg hq22).pos hq36).t hq37)), (Ax (L := (Bx2 ++ Bx706)) (hw1.perm ((qb (qb q0)).trans (qd (qb (qb (qb q0)))))) (nA rfl).symm), (by rw [(((((((((hF.f hq1).f hq4).neg hq8).neg hq9).neg hq12).neg hq21).neg hq22).pos hq36).t hq37).eq]; exact (hox2.slb Ba)), (by rw [(((((((((hF.f hq1).f hq4).neg hq8).neg hq9).neg hq12).neg hq21).neg hq22).pos hq36).t hq37).eq]; exact (hox706.slb Bj)), (by rw [(((((((((hF.f hq1).f hq4).neg hq8).neg hq9).neg hq12).neg hq21).neg hq22).pos hq36).t hq37).eq]; first | exact lb | (rw [Ap z3]; omega)), (by rw [(((((((((hF.f hq1).f hq4).neg hq8).neg hq9).neg hq12).neg hq21).neg hq22).pos hq36).t hq37).eq]; first | exact lb | (rw [Ap z3]; omega))⟩
   refine Py ?_
   refine lE ?_
   refine vL ?_
   refine Ak Ag J2 (k := fun r741 hr741 => ?_)
   refine Lr ?_
   refine Uu ?_
   refine wA ?_
   refine iI ?_
   refine lE ?_
   refine rX ?_
   refine Dz ?_
   refine Cn _ (sd (sk (sk (sa (sk (sk (sk sz))))))) ?_
   refine vX ?_
   refine Cn _ (sd (sk (sa (sk (sk (sk sz)))))) ?_
   refine Dj results145 Bw.nil ?_
   refine Dz ?_
   refine Dj results86 Bw.nil ?_
   refine K1 ?_
   refine Rl ?_
   refine Aa results14 (Bw.agg isAgg26 sizeOf26 rfl me rfl (Bw.tmp rfl (Bw.agg isAgg43 sizeOf43 rfl me rfl z0))) (fun w1 hw1 => ?_)
   exact ⟨ax1, s.opn.length, none, 0, Bx2, (rq (((((((((hF.f hq1).f hq4).neg hq8).neg hq9).neg hq12).neg hq21).neg hq22).pos hq36).f hq37)), (Ax (L := Bx2) (hw1.perm (qb (qb (qb q0)))) rfl.symm), (by rw [(((((((((hF.f hq1).f hq4).neg hq8).neg hq9).neg hq12).neg hq21).neg hq22).pos hq36).f hq37).eq]; exact (hox2.slb Ba)), (rn (((((((((hF.f hq1).f hq4).neg hq8).neg hq9).neg hq12).neg hq21).neg hq22).pos hq36).f hq37)), (by rw [(((((((((hF.f hq1).f hq4).neg hq8).neg hq9).neg hq12).neg hq21).neg hq22).pos hq36).f hq37).eq]; first | exact lb | (rw [Ap z3]; omega)), (by rw [(((((((((hF.f hq1).f hq4).neg hq8).neg hq9).neg hq12).neg hq21).neg hq22).pos hq36).f hq37).eq]; first | exact lb | (rw [Ap z3]; omega))⟩
  by_cases hq38 : f.kind = 5
  ·refine Be (Dm (l := ([(8, (Value.func (.func 82) [].toArray [].toArray)), (3, (Value.func (.func 85) [].toArray [].toArray)), (4, (Value.func (.func 86) [].toArray [].toArray)), (5, (Value.func (.func 87) [].toArray [].toArray)), (6, (Value.func (.func 88) [].toArray [].toArray)), (7, (Value.func (.func 89) [].toArray [].toArray))] : List (Int × Value))) (v := (Value.func (.func 87) [].toArray [].toArray)) f.kind Cf runUnderlying100 runUnderlying3 zeroValue98 hms10 ((Ai (fun e => hq21 e.symm)).trans ((Ai (fun e => hq22 e.symm)).trans ((Ai (fun e => hq36 e.symm)).trans (Co hq38.symm))))) (k := ?_)
   refine dB ?_
   refine aF ?_
   refine Hp ?_
   refine Bq (args := [_]) (Ac call87) func87 ntmps87 ?_
   refine Sd ?_
   refine Uu ?_
   refine iH ?_
   refine Cy (Ac call146) (fun w1 hw1 => X7 w1 (s := f.data)) (k := ?_)
   refine sU ?_
   refine Bq (args := [_, _]) (Ac call145) func145 ntmps145 ?_
   refine Z2 ?_
   refine Ak Ag J2 (k := fun r742 hr742 => ?_)
   refine Jr ?_
   refine AU9 ?_
   refine K6 ?_
   refine AC7 ?_
   refine Be Hi (k := ?_)
   refine oR ?_
   refine Dl rfl (fun hq39 => ?_) (fun hq39 => ?_)
   ·refine Cb ?_
    refine AG0 ?_
    refine Hg Ag kW (k := fun r743 hr743 => ?_)
    refine De ([(Frame.mk 7 f.stream ([] : An))] : List Frame) (List.nil_append _) Jq underlying39 Bj Bt.nil (List.Perm.refl _) (Cl.lit (xs := ([(Frame.mk 7 f.stream ([] : An))] : List Frame)) Bj) ⟨by omega, by omega⟩ (n := 0) (m := 1) (k := fun ax707 cx707 Bx707 hox707 => ?_)
    refine AG1 ?_
    refine AC6 ?_
    refine Bd results145 Bw.nil ?_
    refine Dz ?_
    refine Dj results87 Bw.nil ?_
    refine sI ?_
    refine Aa results14 (Bw.agg isAgg26 sizeOf26 rfl me rfl (Bw.tmp rfl (Bw.agg isAgg43 sizeOf43 rfl me rfl z0))) (fun w1 hw1 => ?_)
    exact ⟨ax1, s.opn.length, ax707, cx707, (Bx2 ++ Bx707), (rq ((((((((((hF.f hq1).f hq4).neg hq8).neg hq9).neg hq12).neg hq21).neg hq22).neg hq36).pos hq38).t hq39)), (Ax (L := (Bx2 ++ Bx707)) (hw1.perm ((qb (qb q0)).trans (qd (qb (qb (qb q0)))))) (nA rfl).symm), (by rw [((((((((((hF.f hq1).f hq4).neg hq8).neg hq9).neg hq12).neg hq21).neg hq22).neg hq36).pos hq38).t hq39).eq]; exact (hox2.slb Ba)), (by rw [((((((((((hF.f hq1).f hq4).neg hq8).neg hq9).neg hq12).neg hq21).neg hq22).neg hq36).pos hq38).t hq39).eq]; exact (hox707.slb Bj)), (by rw [((((((((((hF.f hq1).f hq4).neg hq8).neg hq9).neg hq12).neg hq21).neg hq22).neg hq36).pos hq38).t hq39).eq]; first | exact lb | (rw [Ap z3]; omega)), (by rw [((((((((((hF.f hq1).f hq4).neg hq8).neg hq9).neg hq12).neg hq21).neg hq22).neg hq36).pos hq38).t hq39).eq]; first | exact lb | (rw [Ap z3]; omega))⟩
   refine Py ?_
   refine lE ?_
   refine vL ?_
   refine Ak Ag J2 (k := fun r744 hr744 => ?_)
   refine Lr ?_
   refine Uu ?_
   refine wA ?_
   refine iI ?_
   refine lE ?_
   refine rX ?_
   refine Dz ?_
   refine Cn _ (sd (sk (sk (sa (sk (sk (sk sz))))))) ?_
   refine vX ?_
   refine Cn _ (sd (sk (sa (sk (sk (sk sz)))))) ?_
   refine Dj results145 Bw.nil ?_
   refine Dz ?_
   refine Dj results87 Bw.nil ?_
   refine K1 ?_
   refine Rl ?_
   refine Aa results14 (Bw.agg isAgg26 sizeOf26 rfl me rfl (Bw.tmp rfl (Bw.agg isAgg43 sizeOf43 rfl me rfl z0))) (fun w1 hw1 => ?_)
   exact ⟨ax1, s.opn.length, none, 0, Bx2, (rq ((((((((((hF.f hq1).f hq4).neg hq8).neg hq9).neg hq12).neg hq21).neg hq22).neg hq36).pos hq38).f hq39)), (Ax (L := Bx2) (hw1.perm (qb (qb (qb q0)))) rfl.symm), (by rw [((((((((((hF.f hq1).f hq4).neg hq8).neg hq9).neg hq12).neg hq21).neg hq22).neg hq36).pos hq38).f hq39).eq]; exact (hox2.slb Ba)), (rn ((((((((((hF.f hq1).f hq4).neg hq8).neg hq9).neg hq12).neg hq21).neg hq22).neg hq36).pos hq38).f hq39)), (by rw [((((((((((hF.f hq1).f hq4).neg hq8).neg hq9).neg hq12).neg hq21).neg hq22).neg hq36).pos hq38).f hq39).eq]; first | exact lb | (rw [Ap z3]; omega)), (by rw [((((((((((hF.f hq1).f hq4).neg hq8).neg hq9).neg hq12).neg hq21).neg hq22).neg hq36).pos hq38).f hq39).eq]; first | exact lb | (rw [Ap z3]; omega))⟩
  by_cases hq40 : f.kind = 6
  ·refine Be (Dm (l := ([(8, (Value.func (.func 82) [].toArray [].toArray)), (3, (Value.func (.func 85) [].toArray [].toArray)), (4, (Value.func (.func 86) [].toArray [].toArray)), (5, (Value.func (.func 87) [].toArray [].toArray)), (6, (Value.func (.func 88) [].toArray [].toArray)), (7, (Value.func (.func 89) [].toArray [].toArray))] : List (Int × Value))) (v := (Value.func (.func 88) [].toArray [].toArray)) f.kind Cf runUnderlying100 runUnderlying3 zeroValue98 hms10 ((Ai (fun e => hq21 e.symm)).trans ((Ai (fun e => hq22 e.symm)).trans ((Ai (fun e => hq36 e.symm)).trans ((Ai (fun e => hq38 e.symm)).trans (Co hq40.symm)))))) (k := ?_)
   refine dB ?_
   refine aF ?_
   refine Hp ?_
   refine Bq (args := [_]) (Ac call88) func88 ntmps88 ?_
   refine AC5 ?_
   refine Bq (args := [_, _]) (Ac call145) func145 ntmps145 ?_
   refine Z2 ?_
   refine Ak Ag J2 (k := fun r745 hr745 => ?_)
   refine Jr ?_
   refine AU9 ?_
   refine K6 ?_
   refine AC7 ?_
   refine Be Hi (k := ?_)
   refine oR ?_
   refine Dl rfl (fun hq41 => ?_) (fun hq41 => ?_)
   ·refine Cb ?_
    refine AG0 ?_
    refine Hg Ag kW (k := fun r746 hr746 => ?_)
    refine De ([(Frame.mk 7 f.stream ([] : An))] : List Frame) (List.nil_append _) Jq underlying39 Bj Bt.nil (List.Perm.refl _) (Cl.lit (xs := ([(Frame.mk 7 f.stream ([] : An))] : List Frame)) Bj) ⟨by omega, by omega⟩ (n := 0) (m := 1) (k := fun ax708 cx708 Bx708 hox708 => ?_)
    refine AG1 ?_
    refine AC6 ?_
    refine Bd results145 Bw.nil ?_
    refine Dz ?_
    refine Dj results88 Bw.nil ?_
    refine sI ?_
    refine Aa results14 (Bw.agg isAgg26 sizeOf26 rfl me rfl (Bw.tmp rfl (Bw.agg isAgg43 sizeOf43 rfl me rfl z0))) (fun w1 hw1 => ?_)
    exact ⟨ax1, s.opn.length, ax708, cx708, (Bx2 ++ Bx708), (rq (((((((((((hF.f hq1).f hq4).neg hq8).neg hq9).neg hq12).neg hq21).neg hq22).neg hq36).neg hq38).pos hq40).t hq41)), (Ax (L := (Bx2 ++ Bx708)) (hw1.perm ((qb (qb q0)).trans (qd (qb (qb (qb q0)))))) (nA rfl).symm), (by rw [(((((((((((hF.f hq1).f hq4).neg hq8).neg hq9).neg hq12).neg hq21).neg hq22).neg hq36).neg hq38).pos hq40).t hq41).eq]; exact (hox2.slb Ba)), (by rw [(((((((((((hF.f hq1).f hq4).neg hq8).neg hq9).neg hq12).neg hq21).neg hq22).neg hq36).neg hq38).pos hq40).t hq41).eq]; exact (hox708.slb Bj)), (by rw [(((((((((((hF.f hq1).f hq4).neg hq8).neg hq9).neg hq12).neg hq21).neg hq22).neg hq36).neg hq38).pos hq40).t hq41).eq]; first | exact lb | (rw [Ap z3]; omega)), (by rw [(((((((((((hF.f hq1).f hq4).neg hq8).neg hq9).neg hq12).neg hq21).neg hq22).neg hq36).neg hq38).pos hq40).t hq41).eq]; first | exact lb | (rw [Ap z3]; omega))⟩
   refine Py ?_
   refine lE ?_
   refine vL ?_
   refine Ak Ag J2 (k := fun r747 hr747 => ?_)
   refine Lr ?_
   refine Uu ?_
   refine wA ?_
   refine iI ?_
   refine lE ?_
   refine rX ?_
   refine Dz ?_
   refine Cn _ (sd (sk (sk (sa (sk (sk (sk sz))))))) ?_
   refine vX ?_
   refine Cn _ (sd (sk (sa (sk (sk (sk sz)))))) ?_
   refine Dj results145 Bw.nil ?_
   refine Dz ?_
   refine Dj results88 Bw.nil ?_
   refine K1 ?_
   refine Rl ?_
   refine Aa results14 (Bw.agg isAgg26 sizeOf26 rfl me rfl (Bw.tmp rfl (Bw.agg isAgg43 sizeOf43 rfl me rfl z0))) (fun w1 hw1 => ?_)
   exact ⟨ax1, s.opn.length, none, 0, Bx2, (rq (((((((((((hF.f hq1).f hq4).neg hq8).neg hq9).neg hq12).neg hq21).neg hq22).neg hq36).neg hq38).pos hq40).f hq41)), (Ax (L := Bx2) (hw1.perm (qb (qb (qb q0)))) rfl.symm), (by rw [(((((((((((hF.f hq1).f hq4).neg hq8).neg hq9).neg hq12).neg hq21).neg hq22).neg hq36).neg hq38).pos hq40).f hq41).eq]; exact (hox2.slb Ba)), (rn (((((((((((hF.f hq1).f hq4).neg hq8).neg hq9).neg hq12).neg hq21).neg hq22).neg hq36).neg hq38).pos hq40).f hq41)), (by rw [(((((((((((hF.f hq1).f hq4).neg hq8).neg hq9).neg hq12).neg hq21).neg hq22).neg hq36).neg hq38).pos hq40).f hq41).eq]; first | exact lb | (rw [Ap z3]; omega)), (by rw [(((((((((((hF.f hq1).f hq4).neg hq8).neg hq9).neg hq12).neg hq21).neg hq22).neg hq36).neg hq38).pos hq40).f hq41).eq]; first | exact lb | (rw [Ap z3]; omega))⟩
  by_cases hq42 : f.kind = 7
  rotate_left
  ·refine Be (St (l := ([(8, (Value.func (.func 82) [].toArray [].toArray)), (3, (Value.func (.func 85) [].toArray [].toArray)), (4, (Value.func (.func 86) [].toArray [].toArray)), (5, (Value.func (.func 87) [].toArray [].toArray)), (6, (Value.func (.func 88) [].toArray [].toArray)), (7, (Value.func (.func 89) [].toArray [].toArray))] : List (Int × Value))) f.kind Cf runUnderlying100 runUnderlying3 zeroValue98 hms10 ((Ai (fun e => hq21 e.symm)).trans ((Ai (fun e => hq22 e.symm)).trans ((Ai (fun e => hq36 e.symm)).trans ((Ai (fun e => hq38 e.symm)).trans ((Ai (fun e => hq40 e.symm)).trans ((Ai (fun e => hq42 e.symm)).trans Lz))))))) (k := ?_)
   refine dB ?_
   refine Mp ?_
   refine Cp ?_
   refine Ji ?_
   refine oM ?_
   refine Ym ?_
   refine aG ?_
   refine oK ?_
   refine pC ?_
   refine iG ?_
   refine iT ?_
   refine oV ?_
   refine Jr ?_
   refine Z46 ?_
   refine Rl ?_
   refine Aa results14 (Bw.agg isAgg26 sizeOf26 rfl me rfl (Bw.tmp rfl (Bw.agg isAgg43 sizeOf43 rfl me rfl z0))) (fun w1 hw1 => ?_)
   exact ⟨none, 0, none, 0, [], (rq (((((((((((hF.f hq1).f hq4).neg hq8).neg hq9).neg hq12).neg hq21).neg hq22).neg hq36).neg hq38).neg hq40).neg hq42)), (hw1.fresh_out.sub Mo), (rn (((((((((((hF.f hq1).f hq4).neg hq8).neg hq9).neg hq12).neg hq21).neg hq22).neg hq36).neg hq38).neg hq40).neg hq42)), (rn (((((((((((hF.f hq1).f hq4).neg hq8).neg hq9).neg hq12).neg hq21).neg hq22).neg hq36).neg hq38).neg hq40).neg hq42)), (by rw [(((((((((((hF.f hq1).f hq4).neg hq8).neg hq9).neg hq12).neg hq21).neg hq22).neg hq36).neg hq38).neg hq40).neg hq42).eq]; first | exact lb | (rw [Ap z3]; omega)), (by rw [(((((((((((hF.f hq1).f hq4).neg hq8).neg hq9).neg hq12).neg hq21).neg hq22).neg hq36).neg hq38).neg hq40).neg hq42).eq]; first | exact lb | (rw [Ap z3]; omega))⟩
  refine Be (Dm (l := ([(8, (Value.func (.func 82) [].toArray [].toArray)), (3, (Value.func (.func 85) [].toArray [].toArray)), (4, (Value.func (.func 86) [].toArray [].toArray)), (5, (Value.func (.func 87) [].toArray [].toArray)), (6, (Value.func (.func 88) [].toArray [].toArray)), (7, (Value.func (.func 89) [].toArray [].toArray))] : List (Int × Value))) (v := (Value.func (.func 89) [].toArray [].toArray)) f.kind Cf runUnderlying100 runUnderlying3 zeroValue98 hms10 ((Ai (fun e => hq21 e.symm)).trans ((Ai (fun e => hq22 e.symm)).trans ((Ai (fun e => hq36 e.symm)).trans ((Ai (fun e => hq38 e.symm)).trans ((Ai (fun e => hq40 e.symm)).trans (Co hq42.symm))))))) (k := ?_)
  refine dB ?_
  refine aF ?_
  refine Hp ?_
  refine Bq (args := [_]) (Ac call89) func89 ntmps89 ?_
  refine Eu ?_
  refine AW3 ?_
  refine Ct 1 rfl z2 Qf (k := ?_)
  refine Ct 2 rfl z2 (Al Jn) (k := ?_)
  refine Ct 3 rfl z2 z66 (k := ?_)
  refine AW4 ?_
  refine Ct 6 rfl z2 (Al iA) (k := ?_)
  refine Ct 7 rfl z2 (Al Ke) (k := ?_)
  refine Ct 8 rfl z2 J9 (k := ?_)
  refine Cc [9, 13] z2 rfl (List.forall_mem_cons.2 ⟨?_, (List.forall_mem_cons.2 ⟨?_, nofun⟩)⟩)
  ·skip
   refine BH9 ?_
   rintro w1_885 e1_885 w2_885 hw1_885 ⟨a1_885, c1_885, B_885, he_885, hf_885, hs1_885, hl1_885⟩
   refine ⟨_, _, _, he_885, hf_885, rfl, ?_⟩
   refine C6 ?_
   refine Cc [13] z2 rfl (List.forall_mem_cons.2 ⟨?_, nofun⟩)
   ·skip
    refine Jp rfl Ag mG (k := fun r1028 hr1028 => ?_)
    refine Cc [14] z2 rfl (List.forall_mem_cons.2 ⟨?_, nofun⟩)
    ·skip
     refine tR (V' := ((r1028, _) :: [])) rfl (Bn (l' := [_, _, _, _, _, _, _]) sizeOf26) (k := ?_)
     refine C5 ?_
     refine Lr ?_
     refine iP ?_
     refine Bi rfl (fun hq43 => ?_) (fun hq43 => ?_)
     rotate_left
     ·refine Cg ?_
      refine Cn _ (sd (sx (sk (sa (sk (sk (sk sz))))))) ?_
      refine Dj results89 Bw.nil ?_
      refine K1 ?_
      refine Rl ?_
      refine Aa results14 (Bw.agg isAgg26 sizeOf26 rfl me rfl (Bw.tmp rfl (Bw.agg isAgg43 sizeOf43 rfl me rfl z0))) (fun w1 hw1 => ?_)
      exact ⟨ax1, s.opn.length, none, 0, Bx2, (rq ((((((((((((hF.f hq1).f hq4).neg hq8).neg hq9).neg hq12).neg hq21).neg hq22).neg hq36).neg hq38).neg hq40).pos hq42).neg hq43)), (Ax (L := Bx2) (hw1.perm (qb (qb (qb q0)))) rfl.symm), (by rw [((((((((((((hF.f hq1).f hq4).neg hq8).neg hq9).neg hq12).neg hq21).neg hq22).neg hq36).neg hq38).neg hq40).pos hq42).neg hq43).eq]; exact (hox2.slb Ba)), (rn ((((((((((((hF.f hq1).f hq4).neg hq8).neg hq9).neg hq12).neg hq21).neg hq22).neg hq36).neg hq38).neg hq40).pos hq42).neg hq43)), (by rw [((((((((((((hF.f hq1).f hq4).neg hq8).neg hq9).neg hq12).neg hq21).neg hq22).neg hq36).neg hq38).neg hq40).pos hq42).neg hq43).eq]; first | exact lb | (rw [Ap z3]; omega)), (by rw [((((((((((((hF.f hq1).f hq4).neg hq8).neg hq9).neg hq12).neg hq21).neg hq22).neg hq36).neg hq38).neg hq40).pos hq42).neg hq43).eq]; first | exact lb | (rw [Ap z3]; omega))⟩
     refine Z3 ?_
     refine D7 ?_
     refine Yl ?_
     refine iG ?_
     refine Dk _ (sd (sa (sk (sa (sk (sk (sk sz))))))) ?_
     refine AC5 ?_
     refine vL ?_
     refine Ak Ag J2 (k := fun r1088 hr1088 => ?_)
     refine Lr ?_
     refine Uu ?_
     refine wA ?_
     refine iI ?_
     refine lE ?_
     refine rX ?_
     refine Dz ?_
     refine Cn _ (sd (sa (sk (sa (sk (sk (sk sz))))))) ?_
     refine vX ?_
     refine Dj results89 Bw.nil ?_
     refine Jr ?_
     refine BF5 ?_
     refine Rl ?_
     refine Aa results14 (Bw.agg isAgg26 sizeOf26 rfl me rfl (Bw.tmp rfl (Bw.agg isAgg43 sizeOf43 rfl me rfl z0))) (fun w1 hw1 => ?_)
     exact ⟨a1_885, c1_885, none, 0, B_885, (rq ((((((((((((hF.f hq1).f hq4).neg hq8).neg hq9).neg hq12).neg hq21).neg hq22).neg hq36).neg hq38).neg hq40).pos hq42).pos hq43)), (Ax (L := B_885) (hw1.perm (qb (qb q0))) rfl.symm), (by rw [((((((((((((hF.f hq1).f hq4).neg hq8).neg hq9).neg hq12).neg hq21).neg hq22).neg hq36).neg hq38).neg hq40).pos hq42).pos hq43).eq]; exact (hs1_885.mono z20)), (rn ((((((((((((hF.f hq1).f hq4).neg hq8).neg hq9).neg hq12).neg hq21).neg hq22).neg hq36).neg hq38).neg hq40).pos hq42).pos hq43)), (by rw [((((((((((((hF.f hq1).f hq4).neg hq8).neg hq9).neg hq12).neg hq21).neg hq22).neg hq36).neg hq38).neg hq40).pos hq42).pos hq43).eq]; first | exact lb | (rw [Ap z3]; omega)), (by rw [((((((((((((hF.f hq1).f hq4).neg hq8).neg hq9).neg hq12).neg hq21).neg hq22).neg hq36).neg hq38).neg hq40).pos hq42).pos hq43).eq]; first | exact lb | (rw [Ap z3]; omega))⟩
  ·skip
   refine Jp rfl Ag mG (k := fun r1028 hr1028 => ?_)
   refine Cc [9] z2 rfl (List.forall_mem_cons.2 ⟨?_, nofun⟩)
   ·skip
    refine BH9 ?_
    rintro w1_885 e1_885 w2_885 hw1_885 ⟨a1_885, c1_885, B_885, he_885, hf_885, hs1_885, hl1_885⟩
    refine ⟨_, _, _, he_885, hf_885, rfl, ?_⟩
    refine C6 ?_
    refine Cc [14] z2 rfl (List.forall_mem_cons.2 ⟨?_, nofun⟩)
    ·skip
     refine tR (V' := ((r1028, _) :: [])) rfl (Bn (l' := [_, _, _, _, _, _, _]) sizeOf26) (k := ?_)
     refine C5 ?_
     refine Lr ?_
     refine iP ?_
     refine Bi rfl (fun hq44 => ?_) (fun hq44 => ?_)
     rotate_left
     ·refine Cg ?_
      refine Cn _ (sd (sx (sk (sa (sk (sk (sk sz))))))) ?_
      refine Dj results89 Bw.nil ?_
      refine K1 ?_
      refine Rl ?_
      refine Aa results14 (Bw.agg isAgg26 sizeOf26 rfl me rfl (Bw.tmp rfl (Bw.agg isAgg43 sizeOf43 rfl me rfl z0))) (fun w1 hw1 => ?_)
      exact ⟨ax1, s.opn.length, none, 0, Bx2, (rq ((((((((((((hF.f hq1).f hq4).neg hq8).neg hq9).neg hq12).neg hq21).neg hq22).neg hq36).neg hq38).neg hq40).pos hq42).neg hq44)), (Ax (L := Bx2) (hw1.perm (qb (qb (qb q0)))) rfl.symm), (by rw [((((((((((((hF.f hq1).f hq4).neg hq8).neg hq9).neg hq12).neg hq21).neg hq22).neg hq36).neg hq38).neg hq40).pos hq42).neg hq44).eq]; exact (hox2.slb Ba)), (rn ((((((((((((hF.f hq1).f hq4).neg hq8).neg hq9).neg hq12).neg hq21).neg hq22).neg hq36).neg hq38).neg hq40).pos hq42).neg hq44)), (by rw [((((((((((((hF.f hq1).f hq4).neg hq8).neg hq9).neg hq12).neg hq21).neg hq22).neg hq36).neg hq38).neg hq40).pos hq42).neg hq44).eq]; first | exact lb | (rw [Ap z3]; omega)), (by rw [((((((((((((hF.f hq1).f hq4).neg hq8).neg hq9).neg hq12).neg hq21).neg hq22).neg hq36).neg hq38).neg hq40).pos hq42).neg hq44).eq]; first | exact lb | (rw [Ap z3]; omega))⟩
     refine Z3 ?_
     refine D7 ?_
     refine Yl ?_
     refine iG ?_
     refine Dk _ (sd (sa (sk (sa (sk (sk (sk sz))))))) ?_
     refine AC5 ?_
     refine vL ?_
     refine Ak Ag J2 (k := fun r1088 hr1088 => ?_)
     refine Lr ?_
     refine Uu ?_
     refine wA ?_
     refine iI ?_
     refine lE ?_
     refine rX ?_
     refine Dz ?_
     refine Cn _ (sd (sa (sk (sa (sk (sk (sk sz))))))) ?_
     refine vX ?_
     refine Dj results89 Bw.nil ?_
     refine Jr ?_
     refine BF5 ?_
     refine Rl ?_
     refine Aa results14 (Bw.agg isAgg26 sizeOf26 rfl me rfl (Bw.tmp rfl (Bw.agg isAgg43 sizeOf43 rfl me rfl z0))) (fun w1 hw1 => ?_)
     exact ⟨a1_885, c1_885, none, 0, B_885, (rq ((((((((((((hF.f hq1).f hq4).neg hq8).neg hq9).neg hq12).neg hq21).neg hq22).neg hq36).neg hq38).neg hq40).pos hq42).pos hq44)), (Ax (L := B_885) (hw1.perm (qb (qb q0))) rfl.symm), (by rw [((((((((((((hF.f hq1).f hq4).neg hq8).neg hq9).neg hq12).neg hq21).neg hq22).neg hq36).neg hq38).neg hq40).pos hq42).pos hq44).eq]; exact (hs1_885.mono z20)), (rn ((((((((((((hF.f hq1).f hq4).neg hq8).neg hq9).neg hq12).neg hq21).neg hq22).neg hq36).neg hq38).neg hq40).pos hq42).pos hq44)), (by rw [((((((((((((hF.f hq1).f hq4).neg hq8).neg hq9).neg hq12).neg hq21).neg hq22).neg hq36).neg hq38).neg hq40).pos hq42).pos hq44).eq]; first | exact lb | (rw [Ap z3]; omega)), (by rw [((((((((((((hF.f hq1).f hq4).neg hq8).neg hq9).neg hq12).neg hq21).neg hq22).neg hq36).neg hq38).neg hq40).pos hq42).pos hq44).eq]; first | exact lb | (rw [Ap z3]; omega))⟩
 refine Be (Dm (l := ([(8, (Value.func (.func 82) [].toArray [].toArray)), (3, (Value.func (.func 85) [].toArray [].toArray)), (4, (Value.func (.func 86) [].toArray [].toArray)), (5, (Value.func (.func 87) [].toArray [].toArray)), (6, (Value.func (.func 88) [].toArray [].toArray)), (7, (Value.func (.func 89) [].toArray [].toArray))] : List (Int × Value))) (v := (Value.func (.func 85) [].toArray [].toArray)) f.kind Cf runUnderlying100 runUnderlying3 zeroValue98 hms10 ((Ai (fun e => hq21 e.symm)).trans (Co hq22.symm))) (k := ?_)
 refine dB ?_
 refine aF ?_
 refine Hp ?_
 refine Bq (args := [_]) (Ac call85) func85 ntmps85 ?_
 refine Eu ?_
 refine Eu ?_
 refine Eh mixed 10 [(true, 0), (true, 1), (true, 2), (true, 3), (true, 4), (true, 5), (true, 6), (true, 7), (true, 8), (false, 9)] z2 ?_
 refine K6 ?_
 refine AC7 ?_
 refine oR ?_
 refine Dl rfl (fun hq23 => ?_) (fun hq23 => ?_)
 ·refine Cb ?_
  refine Jt ?_
  refine oM ?_
  refine Ym ?_
  refine aG ?_
  refine oK ?_
  refine pC ?_
  refine iG ?_
  refine iT ?_
  refine oV ?_
  refine kY ?_
  refine Ge ?_
  refine Bd results85 Bw.nil ?_
  refine Jr ?_
  refine Z46 ?_
  refine Rl ?_
  refine Aa results14 (Bw.agg isAgg26 sizeOf26 rfl me rfl (Bw.tmp rfl (Bw.agg isAgg43 sizeOf43 rfl me rfl z0))) (fun w1 hw1 => ?_)
  exact ⟨none, 0, none, 0, [], (rq ((((((((hF.f hq1).f hq4).neg hq8).neg hq9).neg hq12).neg hq21).pos hq22).t hq23)), (hw1.fresh_out.sub Mo), (rn ((((((((hF.f hq1).f hq4).neg hq8).neg hq9).neg hq12).neg hq21).pos hq22).t hq23)), (rn ((((((((hF.f hq1).f hq4).neg hq8).neg hq9).neg hq12).neg hq21).pos hq22).t hq23)), (by rw [((((((((hF.f hq1).f hq4).neg hq8).neg hq9).neg hq12).neg hq21).pos hq22).t hq23).eq]; first | exact lb | (rw [Ap z3]; omega)), (by rw [((((((((hF.f hq1).f hq4).neg hq8).neg hq9).neg hq12).neg hq21).pos hq22).t hq23).eq]; first | exact lb | (rw [Ap z3]; omega))⟩
 refine Py ?_
 refine Z3 ?_
 refine Bq (args := [_]) (Ac call136) func136 ntmps136 ?_
 refine Z2 ?_
 refine Ak Ag eG (k := fun r361 hr361 => ?_)
 refine Ik ?_
 refine pO (σ1 := List Ie) (σ2 := Option Addr) (σ3 := Nat) (σ4 := Av) (σ5 := List Eb) (σ6 := Option Addr) (σ7 := Nat) (σ8 := Av) (σ9 := Nat) (fun x_6 x_6a x_6c x_6B x_7 x_7a x_7c x_7B r642 => (x_7B ++ (x_6B ++ ((r642, oc [(vi ((Ce r s.name).1.handle.slot)), (vi ((Ce r s.name).1.handle.gen)), (vt ((Ce r s.name).1.name)), (vi ((Ce r s.name).1.state)), (vi ((Ce r s.name).1.version)), (vs x_6a x_6.length x_6c), (vs x_7a x_7.length x_7c), (vi ((Ce r s.name).1.deadline))] 50) :: ((r361, oc [(vi 0), (vi 0), (vt ([] : An)), (vi 0), (vi 0), (vs none 0 0), (vs none 0 0), (vi 0)] 50) :: ((r359, Obj.map em10 km10) :: (Bx2 ++ ((r6, oc [(vi s.phase), (vt s.name), (vi s.handle.slot), (vi s.handle.gen), (vi s.a), (vi s.b), (vs ax1 s.opn.length s.opn.length), (vi f.kind), (vi f.stream), (vt f.data), (vs r_Sg_a r.slots.gens.length r_Sg_c), (vs r_Su_a r.slots.used.length r_Su_c), (vs r_Sf_a r.slots.free.length r_Sf_c), (vs r_l_a r.l.length r_l_c), (vi r.seq), (vi now), (vs none 0 0), (vi 0), (vi 0), (vt ([] : An)), (vi 0), (vi 0), (vi 0)] 96) :: ((r5, oc [(vi 0), (vi 0), (vt ([] : An)), (vi 0), (vi 0), (vi 0)] 43) :: ((r4, oc [(vi 0), (vt ([] : An)), (vi 0), (vi 0), (vi 0), (vi 0), (vs none 0 0)] 26) :: [])))))))))) (fun x_6 x_6a x_6c x_6B x_7 x_7a x_7c x_7B r642 => [(0, (Value.pointer (some ⟨r6, 0, none⟩))), (2, (Value.pointer (some ⟨r361, 0, none⟩))), (3, (Value.bool false)), (4, (Value.pointer (some ⟨r642, 0, none⟩))), (5, (Value.bool ((Ce r s.name).2)))]) (fun x_6 x_6a x_6c x_6B x_7 x_7a x_7c x_7B r642 => Is (Is.xr2 ((((((((hF.f hq1).f hq4).neg hq8).neg hq9).neg hq12).neg hq21).pos hq22).f hq23)) (x_6, x_7) ∧ Bt Lb 5 84 x_6a x_6c x_6B x_6 ∧ Bt Ip 4 112 x_7a x_7c x_7B x_7 ∧ x_6.length ≤ 1000 ∧ x_7.length ≤ 1000) ?_ ?_
 ·skip
  refine AW3 ?_
  refine Ct 1 rfl z2 Qf (k := ?_)
  refine Ct 2 rfl z2 (Al zR) (k := ?_)
  refine Ct 3 rfl z2 (Ch isAgg34 sizeOf34) (k := ?_)
  refine AW4 ?_
  refine Ct 6 rfl z2 (Al Jn) (k := ?_)
  refine Ct 7 rfl z2 (Al cC) (k := ?_)
  refine Ct 8 rfl z2 (Bm isAgg9) (k := ?_)
  refine Cc [9, 13] z2 rfl (List.forall_mem_cons.2 ⟨?_, (List.forall_mem_cons.2 ⟨?_, nofun⟩)⟩)
  ·skip
   refine AJ4 ?_
   rintro w1_541 e1_541 w2_541 hw1_541 ⟨a1_541, c1_541, a2_541, c2_541, B1_541, B2_541, he_541, hf_541, ho1_541, ho2_541, hl1_541, hl2_541⟩
   refine ⟨_, _, _, he_541, hf_541, (nA rfl).symm, ?_⟩
   refine C6 ?_
   refine Cc [13] z2 rfl (List.forall_mem_cons.2 ⟨?_, nofun⟩)
   ·skip
    refine Jp rfl Ag eG (k := fun r642 hr642 => ?_)
    refine Cc [14] z2 rfl (List.forall_mem_cons.2 ⟨?_, nofun⟩)
    ·skip
     refine tR (V' := ((r642, _) :: [])) rfl z45 (k := ?_)
     refine C5 ?_
     refine AC1 ?_
     exact Jv ((Ce r s.name).1.rules) a1_541 c1_541 B1_541 ((Ce r s.name).1.creds) a2_541 c2_541 B2_541 r642 ⟨(Is.refl (Is.xr2 ((((((((hF.f hq1).f hq4).neg hq8).neg hq9).neg hq12).neg hq21).pos hq22).f hq23))), ho1_541, ho2_541, z73, z73⟩ se (List.Perm.refl _)
  ·skip
   refine Jp rfl Ag eG (k := fun r642 hr642 => ?_)
   refine Cc [9] z2 rfl (List.forall_mem_cons.2 ⟨?_, nofun⟩)
   ·skip
    refine AJ4 ?_
    rintro w1_541 e1_541 w2_541 hw1_541 ⟨a1_541, c1_541, a2_541, c2_541, B1_541, B2_541, he_541, hf_541, ho1_541, ho2_541, hl1_541, hl2_541⟩
    refine ⟨_, _, _, he_541, hf_541, (nA rfl).symm, ?_⟩
    refine C6 ?_
    refine Cc [14] z2 rfl (List.forall_mem_cons.2 ⟨?_, nofun⟩)
    ·skip
     refine tR (V' := ((r642, _) :: [])) rfl z45 (k := ?_)
     refine C5 ?_
     refine AC1 ?_
     exact Jv ((Ce r s.name).1.rules) a1_541 c1_541 B1_541 ((Ce r s.name).1.creds) a2_541 c2_541 B2_541 r642 ⟨(Is.refl (Is.xr2 ((((((((hF.f hq1).f hq4).neg hq8).neg hq9).neg hq12).neg hq21).pos hq22).f hq23))), ho1_541, ho2_541, z73, z73⟩ se (List.Perm.refl _)
 rintro x_6 x_6a x_6c x_6B x_7 x_7a x_7c x_7B r642 ⟨hJ8, hx_6, hx_7, hi9, hi10⟩
 refine Du ?_
 refine Eu ?_
 refine BF0 ?_
 refine Li ?_
 refine Fp 21 rfl (fun hq24 => ?_) (fun hq24 => ?_)
 rotate_left
 ·refine Ay 3 rfl ?_
  refine oI ?_
  refine Ay 16 rfl ?_
  refine Be Ft (k := ?_)
  refine AD8 ?_
  refine sL ?_
  refine rH ?_
  refine Kf ?_
  refine Ak Ag eG (k := fun r733 hr733 => ?_)
  refine Ak Ag z65 (k := fun r734 hr734 => ?_)
  refine AD4 ?_
  refine AG5 ?_
  refine Jt ?_
  refine Uu ?_
  refine AC8 ?_
  refine Kf ?_
  refine Ak Ag z68 (k := fun r735 hr735 => ?_)
  refine Ak Ag (Cj (l := [_]) zeroValue44) (k := fun r736 hr736 => ?_)
  refine AD9 ?_
  refine Z0 ?_
  refine aA ?_
  refine Ik ?_
  refine aA ?_
  refine Sf ?_
  refine fU ?_
  refine Ak Ag z63 (k := fun r737 hr737 => ?_)
  refine AF6 ?_
  refine N1 ?_
  refine AF2 ?_
  refine Nk ?_
  refine AI0 ?_
  refine Ab 2 rfl ?_
  refine Hz ?_
  refine O2 ?_
  refine Yo ?_
  refine iU ?_
  refine Hg Ag kW (k := fun r738 hr738 => ?_)
  refine De ([(Frame.mk 7 f.stream ([] : An))] : List Frame) (List.nil_append _) Jq underlying39 Bj Bt.nil (List.Perm.refl _) (Cl.lit (xs := ([(Frame.mk 7 f.stream ([] : An))] : List Frame)) Bj) ⟨by omega, by omega⟩ (n := 0) (m := 1) (k := fun ax705 cx705 Bx705 hox705 => ?_)
  refine iV ?_
  refine Aa results14 (Bw.agg isAgg26 sizeOf26 rfl me rfl (Bw.tmp rfl (Bw.agg isAgg43 sizeOf43 rfl me rfl z0))) (fun w1 hw1 => ?_)
  exact ⟨ax1, s.opn.length, ax705, cx705, (Bx2 ++ Bx705), (rq ((((((((((hF.f hq1).f hq4).neg hq8).neg hq9).neg hq12).neg hq21).pos hq22).f hq23).rn2 hJ8).f hq24)), (Ax (L := (Bx2 ++ Bx705)) (hw1.perm ((qb (qb q0)).trans (qd (qb (qb (qb q0)))))) (nA rfl).symm), (by rw [((((((((((hF.f hq1).f hq4).neg hq8).neg hq9).neg hq12).neg hq21).pos hq22).f hq23).rn2 hJ8).f hq24).eq]; exact (hox2.slb Ba)), (by rw [((((((((((hF.f hq1).f hq4).neg hq8).neg hq9).neg hq12).neg hq21).pos hq22).f hq23).rn2 hJ8).f hq24).eq]; exact (hox705.slb Bj)), (by rw [((((((((((hF.f hq1).f hq4).neg hq8).neg hq9).neg hq12).neg hq21).pos hq22).f hq23).rn2 hJ8).f hq24).eq]; first | exact lb | (rw [Ap z3]; omega)), (by rw [((((((((((hF.f hq1).f hq4).neg hq8).neg hq9).neg hq12).neg hq21).pos hq22).f hq23).rn2 hJ8).f hq24).eq]; first | exact lb | (rw [Ap z3]; omega))⟩
 refine Bu (Al Qp) (k := ?_)
 refine lC ?_
 refine eJ ?_
 refine Dg 26 rfl (fun hq25 => ?_) (fun hq25 => ?_)
 rotate_left
 ·refine Ay 16 rfl ?_
  refine Be Ft (k := ?_)
  refine AD8 ?_
  refine sL ?_
  refine rH ?_
  refine Kf ?_
  refine Ak Ag eG (k := fun r727 hr727 => ?_)
  refine Ak Ag z65 (k := fun r728 hr728 => ?_)
  refine AD4 ?_
  refine AG5 ?_
  refine Jt ?_
  refine Uu ?_
  refine AC8 ?_
  refine Kf ?_
  refine Ak Ag z68 (k := fun r729 hr729 => ?_)
  refine Ak Ag (Cj (l := [_]) zeroValue44) (k := fun r730 hr730 => ?_)
  refine AD9 ?_
  refine Z0 ?_
  refine aA ?_
  refine Ik ?_
  refine aA ?_
  refine Sf ?_
  refine fU ?_
  refine Ak Ag z63 (k := fun r731 hr731 => ?_)
  refine AF6 ?_
  refine N1 ?_
  refine AF2 ?_
  refine Nk ?_
  refine AI0 ?_
  refine Ab 2 rfl ?_
  refine Hz ?_
  refine O2 ?_
  refine Yo ?_
  refine iU ?_
  refine Hg Ag kW (k := fun r732 hr732 => ?_)
  refine De ([(Frame.mk 7 f.stream ([] : An))] : List Frame) (List.nil_append _) Jq underlying39 Bj Bt.nil (List.Perm.refl _) (Cl.lit (xs := ([(Frame.mk 7 f.stream ([] : An))] : List Frame)) Bj) ⟨by omega, by omega⟩ (n := 0) (m := 1) (k := fun ax704 cx704 Bx704 hox704 => ?_)
  refine iV ?_
  refine Aa results14 (Bw.agg isAgg26 sizeOf26 rfl me rfl (Bw.tmp rfl (Bw.agg isAgg43 sizeOf43 rfl me rfl z0))) (fun w1 hw1 => ?_)
  exact ⟨ax1, s.opn.length, ax704, cx704, (Bx2 ++ Bx704), (rq (((((((((((hF.f hq1).f hq4).neg hq8).neg hq9).neg hq12).neg hq21).pos hq22).f hq23).rn2 hJ8).t hq24).neg hq25)), (Ax (L := (Bx2 ++ Bx704)) (hw1.perm ((qb (qb q0)).trans (qd (qb (qb (qb q0)))))) (nA rfl).symm), (by rw [(((((((((((hF.f hq1).f hq4).neg hq8).neg hq9).neg hq12).neg hq21).pos hq22).f hq23).rn2 hJ8).t hq24).neg hq25).eq]; exact (hox2.slb Ba)), (by rw [(((((((((((hF.f hq1).f hq4).neg hq8).neg hq9).neg hq12).neg hq21).pos hq22).f hq23).rn2 hJ8).t hq24).neg hq25).eq]; exact (hox704.slb Bj)), (by rw [(((((((((((hF.f hq1).f hq4).neg hq8).neg hq9).neg hq12).neg hq21).pos hq22).f hq23).rn2 hJ8).t hq24).neg hq25).eq]; first | exact lb | (rw [Ap z3]; omega)), (by rw [(((((((((((hF.f hq1).f hq4).neg hq8).neg hq9).neg hq12).neg hq21).pos hq22).f hq23).rn2 hJ8).t hq24).neg hq25).eq]; first | exact lb | (rw [Ap z3]; omega))⟩
 refine K7 ?_
 refine Bu (Al Jn) (k := ?_)
 refine Bu z75 (k := ?_)
 refine L5 ?_
 refine Dg 33 rfl (fun hq26 => ?_) (fun hq26 => ?_)
 ·refine Ay 8 rfl ?_
  refine iX ?_
  refine Be Kv (k := ?_)
  refine AD8 ?_
  refine sL ?_
  refine rH ?_
  refine Kf ?_
  refine Ak Ag eG (k := fun r702 hr702 => ?_)
  refine Ak Ag z65 (k := fun r703 hr703 => ?_)
  refine AD4 ?_
  refine AG5 ?_
  refine Jt ?_
  refine Uu ?_
  refine AC8 ?_
  refine Kf ?_
  refine Ak Ag z68 (k := fun r704 hr704 => ?_)
  refine Ak Ag (Cj (l := [_]) zeroValue44) (k := fun r705 hr705 => ?_)
  refine AD9 ?_
  refine Z0 ?_
  refine aA ?_
  refine Ik ?_
  refine aA ?_
  refine Sf ?_
  refine fU ?_
  refine Ak Ag z63 (k := fun r706 hr706 => ?_)
  refine AF6 ?_
  refine N1 ?_
  refine AF2 ?_
  refine Nk ?_
  refine AI0 ?_
  refine Ar (Bm isAgg44) (k := ?_)
  refine dF ?_
  refine Ot ?_
  refine O2 ?_
  refine Uz ?_
  refine Bi rfl (fun hq27 => ?_) (fun hq27 => ?_)
  ·refine Cb ?_
   refine Cp ?_
   refine iU ?_
   refine Hg Ag kW (k := fun r707 hr707 => ?_)
   refine De ([(Frame.mk 7 f.stream ([] : An))] : List Frame) (List.nil_append _) Jq underlying39 Bj Bt.nil (List.Perm.refl _) (Cl.lit (xs := ([(Frame.mk 7 f.stream ([] : An))] : List Frame)) Bj) ⟨by omega, by omega⟩ (n := 0) (m := 1) (k := fun ax689 cx689 Bx689 hox689 => ?_)
   refine iV ?_
   refine Aa results14 (Bw.agg isAgg26 sizeOf26 rfl me rfl (Bw.tmp rfl (Bw.agg isAgg43 sizeOf43 rfl me rfl z0))) (fun w1 hw1 => ?_)
   exact ⟨ax1, s.opn.length, ax689, cx689, (Bx2 ++ Bx689), (rq (((((((((((((hF.f hq1).f hq4).neg hq8).neg hq9).neg hq12).neg hq21).pos hq22).f hq23).rn2 hJ8).t hq24).pos hq25).pos hq26).pos hq27)), (Ax (L := (Bx2 ++ Bx689)) (hw1.perm ((qb (qb q0)).trans (qd (qb (qb (qb q0)))))) (nA rfl).symm), (by rw [(((((((((((((hF.f hq1).f hq4).neg hq8).neg hq9).neg hq12).neg hq21).pos hq22).f hq23).rn2 hJ8).t hq24).pos hq25).pos hq26).pos hq27).eq]; exact (hox2.slb Ba)), (by rw [(((((((((((((hF.f hq1).f hq4).neg hq8).neg hq9).neg hq12).neg hq21).pos hq22).f hq23).rn2 hJ8).t hq24).pos hq25).pos hq26).pos hq27).eq]; exact (hox689.slb Bj)), (by rw [(((((((((((((hF.f hq1).f hq4).neg hq8).neg hq9).neg hq12).neg hq21).pos hq22).f hq23).rn2 hJ8).t hq24).pos hq25).pos hq26).pos hq27).eq]; first | exact lb | (rw [Ap z3]; omega)), (by rw [(((((((((((((hF.f hq1).f hq4).neg hq8).neg hq9).neg hq12).neg hq21).pos hq22).f hq23).rn2 hJ8).t hq24).pos hq25).pos hq26).pos hq27).eq]; first | exact lb | (rw [Ap z3]; omega))⟩
  refine Vb ?_
  refine Af (Ei runUnderlying260 sizeOf35 1) (k := ?_)
  refine rW ?_
  refine Bq (args := [_, _]) (Ac call137) func137 ntmps137 ?_
  refine Nk ?_
  refine AG8 ?_
  refine BF3 ?_
  have had_50070 := Th x_6 ((Cs f.data).1)
  refine Kf ?_
  refine lI ?_
  refine cZ ?_
  refine Bo 15 rfl (fun hq28 => ?_) (fun hq28 => ?_)
  rotate_left
  ·refine Ab 2 rfl ?_
   refine Hz ?_
   refine Bd results137 z0 ?_
   refine Yo ?_
   refine iU ?_
   refine Hg Ag kW (k := fun r713 hr713 => ?_)
   refine De ([(Frame.mk 7 f.stream ([] : An))] : List Frame) (List.nil_append _) Jq underlying39 Bj Bt.nil (List.Perm.refl _) (Cl.lit (xs := ([(Frame.mk 7 f.stream ([] : An))] : List Frame)) Bj) ⟨by omega, by omega⟩ (n := 0) (m := 1) (k := fun ax695 cx695 Bx695 hox695 => ?_)
   refine iV ?_
   refine Aa results14 (Bw.agg isAgg26 sizeOf26 rfl me rfl (Bw.tmp rfl (Bw.agg isAgg43 sizeOf43 rfl me rfl z0))) (fun w1 hw1 => ?_)
   exact ⟨ax1, s.opn.length, ax695, cx695, (Bx2 ++ Bx695), (rq ((((((((((((((hF.f hq1).f hq4).neg hq8).neg hq9).neg hq12).neg hq21).pos hq22).f hq23).rn2 hJ8).t hq24).pos hq25).pos hq26).neg hq27).f hq28)), (Ax (L := (Bx2 ++ Bx695)) (hw1.perm ((qb (qb q0)).trans (qd (qb (qb (qb q0)))))) (nA rfl).symm), (by rw [((((((((((((((hF.f hq1).f hq4).neg hq8).neg hq9).neg hq12).neg hq21).pos hq22).f hq23).rn2 hJ8).t hq24).pos hq25).pos hq26).neg hq27).f hq28).eq]; exact (hox2.slb Ba)), (by rw [((((((((((((((hF.f hq1).f hq4).neg hq8).neg hq9).neg hq12).neg hq21).pos hq22).f hq23).rn2 hJ8).t hq24).pos hq25).pos hq26).neg hq27).f hq28).eq]; exact (hox695.slb Bj)), (by rw [((((((((((((((hF.f hq1).f hq4).neg hq8).neg hq9).neg hq12).neg hq21).pos hq22).f hq23).rn2 hJ8).t hq24).pos hq25).pos hq26).neg hq27).f hq28).eq]; first | exact lb | (rw [Ap z3]; omega)), (by rw [((((((((((((((hF.f hq1).f hq4).neg hq8).neg hq9).neg hq12).neg hq21).pos hq22).f hq23).rn2 hJ8).t hq24).pos hq25).pos hq26).neg hq27).f hq28).eq]; first | exact lb | (rw [Ap z3]; omega))⟩
  refine cP ?_
  refine Ot ?_
  refine Bd results137 z0 ?_
  refine Uz ?_
  refine Bi rfl (fun hq29 => ?_) (fun hq29 => ?_)
  ·refine Cb ?_
   refine Cp ?_
   refine iU ?_
   refine Hg Ag kW (k := fun r708 hr708 => ?_)
   refine De ([(Frame.mk 7 f.stream ([] : An))] : List Frame) (List.nil_append _) Jq underlying39 Bj Bt.nil (List.Perm.refl _) (Cl.lit (xs := ([(Frame.mk 7 f.stream ([] : An))] : List Frame)) Bj) ⟨by omega, by omega⟩ (n := 0) (m := 1) (k := fun ax690 cx690 Bx690 hox690 => ?_)
   refine iV ?_
   refine Aa results14 (Bw.agg isAgg26 sizeOf26 rfl me rfl (Bw.tmp rfl (Bw.agg isAgg43 sizeOf43 rfl me rfl z0))) (fun w1 hw1 => ?_)
   exact ⟨ax1, s.opn.length, ax690, cx690, (Bx2 ++ Bx690), (rq (((((((((((((((hF.f hq1).f hq4).neg hq8).neg hq9).neg hq12).neg hq21).pos hq22).f hq23).rn2 hJ8).t hq24).pos hq25).pos hq26).neg hq27).t hq28).pos hq29)), (Ax (L := (Bx2 ++ Bx690)) (hw1.perm ((qb (qb q0)).trans (qd (qb (qb (qb q0)))))) (nA rfl).symm), (by rw [(((((((((((((((hF.f hq1).f hq4).neg hq8).neg hq9).neg hq12).neg hq21).pos hq22).f hq23).rn2 hJ8).t hq24).pos hq25).pos hq26).neg hq27).t hq28).pos hq29).eq]; exact (hox2.slb Ba)), (by rw [(((((((((((((((hF.f hq1).f hq4).neg hq8).neg hq9).neg hq12).neg hq21).pos hq22).f hq23).rn2 hJ8).t hq24).pos hq25).pos hq26).neg hq27).t hq28).pos hq29).eq]; exact (hox690.slb Bj)), (by rw [(((((((((((((((hF.f hq1).f hq4).neg hq8).neg hq9).neg hq12).neg hq21).pos hq22).f hq23).rn2 hJ8).t hq24).pos hq25).pos hq26).neg hq27).t hq28).pos hq29).eq]; first | exact lb | (rw [Ap z3]; omega)), (by rw [(((((((((((((((hF.f hq1).f hq4).neg hq8).neg hq9).neg hq12).neg hq21).pos hq22).f hq23).rn2 hJ8).t hq24).pos hq25).pos hq26).neg hq27).t hq28).pos hq29).eq]; first | exact lb | (rw [Ap z3]; omega))⟩
  refine Vb ?_
  refine Af (Ei runUnderlying260 sizeOf35 2) (k := ?_)
  refine rW ?_
  refine Bq (args := [_]) (Ac call140) func140 ntmps140 ?_
  refine Mq ?_
  refine Yl ?_
  refine fG ?_
  refine Af Ny (k := ?_)
  refine Z4 ?_
  refine Bd results140 z0 ?_
  refine Uz ?_
  refine Bi rfl (fun hq30 => ?_) (fun hq30 => ?_)
  ·refine Cb ?_
   refine Cp ?_
   refine iU ?_
   refine Hg Ag kW (k := fun r709 hr709 => ?_)
   refine De ([(Frame.mk 7 f.stream ([] : An))] : List Frame) (List.nil_append _) Jq underlying39 Bj Bt.nil (List.Perm.refl _) (Cl.lit (xs := ([(Frame.mk 7 f.stream ([] : An))] : List Frame)) Bj) ⟨by omega, by omega⟩ (n := 0) (m := 1) (k := fun ax691 cx691 Bx691 hox691 => ?_)
   refine iV ?_
   refine Aa results14 (Bw.agg isAgg26 sizeOf26 rfl me rfl (Bw.tmp rfl (Bw.agg isAgg43 sizeOf43 rfl me rfl z0))) (fun w1 hw1 => ?_)
   exact ⟨ax1, s.opn.length, ax691, cx691, (Bx2 ++ Bx691), (rq ((((((((((((((((hF.f hq1).f hq4).neg hq8).neg hq9).neg hq12).neg hq21).pos hq22).f hq23).rn2 hJ8).t hq24).pos hq25).pos hq26).neg hq27).t hq28).neg hq29).pos hq30)), (Ax (L := (Bx2 ++ Bx691)) (hw1.perm ((qb (qb q0)).trans (qd (qb (qb (qb q0)))))) (nA rfl).symm), (by rw [((((((((((((((((hF.f hq1).f hq4).neg hq8).neg hq9).neg hq12).neg hq21).pos hq22).f hq23).rn2 hJ8).t hq24).pos hq25).pos hq26).neg hq27).t hq28).neg hq29).pos hq30).eq]; exact (hox2.slb Ba)), (by rw [((((((((((((((((hF.f hq1).f hq4).neg hq8).neg hq9).neg hq12).neg hq21).pos hq22).f hq23).rn2 hJ8).t hq24).pos hq25).pos hq26).neg hq27).t hq28).neg hq29).pos hq30).eq]; exact (hox691.slb Bj)), (by rw [((((((((((((((((hF.f hq1).f hq4).neg hq8).neg hq9).neg hq12).neg hq21).pos hq22).f hq23).rn2 hJ8).t hq24).pos hq25).pos hq26).neg hq27).t hq28).neg hq29).pos hq30).eq]; first | exact lb | (rw [Ap z3]; omega)), (by rw [((((((((((((((((hF.f hq1).f hq4).neg hq8).neg hq9).neg hq12).neg hq21).pos hq22).f hq23).rn2 hJ8).t hq24).pos hq25).pos hq26).neg hq27).t hq28).neg hq29).pos hq30).eq]; first | exact lb | (rw [Ap z3]; omega))⟩
  refine cY ?_
  refine Bd results138 z0 ?_
  refine aF ?_
  refine AT0 ?_
  refine Sd ?_
  refine Yl ?_
  refine Z72 ?_
  refine AF9 ?_
  refine Qb ?_
  refine bH (n := s.opn.length) (x0 := default) Fq underlying24 Ba rfl ⟨by omega, by omega⟩ (k := fun ax692 Bx692 hox692 => ?_)
  refine Ji ?_
  refine gQ (n := s.opn.length) Fq underlying24 Ba hox692 q0 (hox2.slj Ba) Ij rfl (kk := fun Bx693 hox693 => ?_)
  refine AI7 ?_
  refine Yl ?_
  refine Af (Al Oi) (k := ?_)
  refine K9 ?_
  refine vZ ?_
  refine AG9 ?_
  refine Z6 ?_
  refine AC3 ?_
  refine Yv (Ac call141) (fun w1 hw1 => kP w1 (x := s.opn) (target := f.stream) (h_x := (hox693.slj Ba) w1 hw1) (n_x := z9)) (k := ?_)
  have hbs_29492 := kN s.opn f.stream
  refine BF9 ?_
  refine Ym ?_
  refine AG9 ?_
  refine AU4 ?_
  refine Hg Ag z8 (k := fun r710 hr710 => ?_)
  refine BJ1 (Ac call142) (fun w1 hw1 => eW w1 (s := s.opn) (i := ((Gb s.opn f.stream).1)) (x := f.stream) (o_s := hox693) (b_s := fun p hp => hw1.own p (by first | exact hp | (simp [hp]; done))) (n_s := z9) (h_v := (Cl.lit (xs := ([f.stream] : List Int)) Ba) w1 hw1.right) (d_v := (hw1.notIn (List.Perm.trans z15 (show List.Perm (Bx693 ++ ((r710, oc [(vi f.stream)] 3) :: ((r704, oc [(vi ((Cs f.data).1.addr)), (vi ((Cs f.data).1.port))] 41) :: ((r359, Obj.map em10 km10) :: (Bx2 ++ ((r6, oc [(vi s.phase), (vt s.name), (vi s.handle.slot), (vi s.handle.gen), (vi s.a), (vi s.b), (vs ax692 s.opn.length s.opn.length), (vi f.kind), (vi f.stream), (vt f.data), (vs r_Sg_a r.slots.gens.length r_Sg_c), (vs r_Su_a r.slots.used.length r_Su_c), (vs r_Sf_a r.slots.free.length r_Sf_c), (vs r_l_a r.l.length r_l_c), (vi r.seq), (vi now), (vs none 0 0), (vi 0), (vi 0), (vt ([] : An)), (vi 0), (vi 0), (vi 0)] 96) :: ((r5, oc [(vi 0), (vi 0), (vt ([] : An)), (vi 0), (vi 0), (vi 0)] 43) :: ((r4, oc [(vi 0), (vt ([] : An)), (vi 0), (vi 0), (vi 0), (vi 0), (vs none 0 0)] 26) :: [])))))))) ((r710, oc [(vi f.stream)] 3) :: (Bx693 ++ ((r704, oc [(vi ((Cs f.data).1.addr)), (vi ((Cs f.data).1.port))] 41) :: ((r359, Obj.map em10 km10) :: (Bx2 ++ ((r6, oc [(vi s.phase), (vt s.name), (vi s.handle.slot), (vi s.handle.gen), (vi s.a), (vi s.b), (vs ax692 s.opn.length s.opn.length), (vi f.kind), (vi f.stream), (vt f.data), (vs r_Sg_a r.slots.gens.length r_Sg_c), (vs r_Su_a r.slots.used.length r_Su_c), (vs r_Sf_a r.slots.free.length r_Sf_c), (vs r_l_a r.l.length r_l_c), (vi r.seq), (vi now), (vs none 0 0), (vi 0), (vi 0), (vt ([] : An)), (vi 0), (vi 0), (vi 0)] 96) :: ((r5, oc [(vi 0), (vi 0), (vt ([] : An)), (vi 0), (vi 0), (vi 0)] 43) :: ((r4, oc [(vi 0), (vt ([] : An)), (vi 0), (vi 0), (vi 0), (vi 0), (vs none 0 0)] 26) :: [])))))))) from (q0.trans (qc q0)))))) (e_v := ⟨r710, _, _, rfl, hw1.own (r710, oc [(vi f.stream)] 3) Ij, fun hk => (hw1.notIn (List.Perm.trans z15 (show List.Perm (Bx693 ++ ((r710, oc [(vi f.stream)] 3) :: ((r704, oc [(vi ((Cs f.data).1.addr)), (vi ((Cs f.data).1.port))] 41) :: ((r359, Obj.map em10 km10) :: (Bx2 ++ ((r6, oc [(vi s.phase), (vt s.name), (vi s.handle.slot), (vi s.handle.gen), (vi s.a), (vi s.b), (vs ax692 s.opn.length s.opn.length), (vi f.kind), (vi f.stream), (vt f.data), (vs r_Sg_a r.slots.gens.length r_Sg_c), (vs r_Su_a r.slots.used.length r_Su_c), (vs r_Sf_a r.slots.free.length r_Sf_c), (vs r_l_a r.l.length r_l_c), (vi r.seq), (vi now), (vs none 0 0), (vi 0), (vi 0), (vt ([] : An)), (vi 0), (vi 0), (vi 0)] 96) :: ((r5, oc [(vi 0), (vi 0), (vt ([] : An)), (vi 0), (vi 0), (vi 0)] 43) :: ((r4, oc [(vi 0), (vt ([] : An)), (vi 0), (vi 0), (vi 0), (vi 0), (vs none 0 0)] 26) :: [])))))))) ((r710, oc [(vi f.stream)] 3) :: (Bx693 ++ ((r704, oc [(vi ((Cs f.data).1.addr)), (vi ((Cs f.data).1.port))] 41) :: ((r359, Obj.map em10 km10) :: (Bx2 ++ ((r6, oc [(vi s.phase), (vt s.name), (vi s.handle.slot), (vi s.handle.gen), (vi s.a), (vi s.b), (vs ax692 s.opn.length s.opn.length), (vi f.kind), (vi f.stream), (vt f.data), (vs r_Sg_a r.slots.gens.length r_Sg_c), (vs r_Su_a r.slots.used.length r_Su_c), (vs r_Sf_a r.slots.free.length r_Sf_c), (vs r_l_a r.l.length r_l_c), (vi r.seq), (vi now), (vs none 0 0), (vi 0), (vi 0), (vt ([] : An)), (vi 0), (vi 0), (vi 0)] 96) :: ((r5, oc [(vi 0), (vi 0), (vt ([] : An)), (vi 0), (vi 0), (vi 0)] 43) :: ((r4, oc [(vi 0), (vt ([] : An)), (vi 0), (vi 0), (vi 0), (vi 0), (vs none 0 0)] 26) :: [])))))))) from (q0.trans (qc q0))))) r710 hk ⟨r710, 0, none⟩ rfl (List.cons_ne_nil (0 : Nat) []) rfl⟩) (hi := z9)) (k := ?_)
  rintro w1_682 e1_682 w2_682 hw1_682 ⟨a1_682, c1_682, B1_682, he_682, hf_682, ho1_682⟩
  refine ⟨_, (B1_682 ++ []), he_682, ((hw1_682.perm (List.Perm.trans z15 (show List.Perm (Bx693 ++ ((r710, oc [(vi f.stream)] 3) :: ((r704, oc [(vi ((Cs f.data).1.addr)), (vi ((Cs f.data).1.port))] 41) :: ((r359, Obj.map em10 km10) :: (Bx2 ++ ((r6, oc [(vi s.phase), (vt s.name), (vi s.handle.slot), (vi s.handle.gen), (vi s.a), (vi s.b), (vs ax692 s.opn.length s.opn.length), (vi f.kind), (vi f.stream), (vt f.data), (vs r_Sg_a r.slots.gens.length r_Sg_c), (vs r_Su_a r.slots.used.length r_Su_c), (vs r_Sf_a r.slots.free.length r_Sf_c), (vs r_l_a r.l.length r_l_c), (vi r.seq), (vi now), (vs none 0 0), (vi 0), (vi 0), (vt ([] : An)), (vi 0), (vi 0), (vi 0)] 96) :: ((r5, oc [(vi 0), (vi 0), (vt ([] : An)), (vi 0), (vi 0), (vi 0)] 43) :: ((r4, oc [(vi 0), (vt ([] : An)), (vi 0), (vi 0), (vi 0), (vi 0), (vs none 0 0)] 26) :: [])))))))) (Bx693 ++ ((r710, oc [(vi f.stream)] 3) :: ((r704, oc [(vi ((Cs f.data).1.addr)), (vi ((Cs f.data).1.port))] 41) :: ((r359, Obj.map em10 km10) :: (Bx2 ++ ((r6, oc [(vi s.phase), (vt s.name), (vi s.handle.slot), (vi s.handle.gen), (vi s.a), (vi s.b), (vs ax692 s.opn.length s.opn.length), (vi f.kind), (vi f.stream), (vt f.data), (vs r_Sg_a r.slots.gens.length r_Sg_c), (vs r_Su_a r.slots.used.length r_Su_c), (vs r_Sf_a r.slots.free.length r_Sf_c), (vs r_l_a r.l.length r_l_c), (vi r.seq), (vi now), (vs none 0 0), (vi 0), (vi 0), (vt ([] : An)), (vi 0), (vi 0), (vi 0)] 96) :: ((r5, oc [(vi 0), (vi 0), (vt ([] : An)), (vi 0), (vi 0), (vi 0)] 43) :: ((r4, oc [(vi 0), (vt ([] : An)), (vi 0), (vi 0), (vi 0), (vi 0), (vs none 0 0)] 26) :: [])))))))) from (List.Perm.refl _)))).tr hf_682).perm z15, ?_⟩
  refine vI ?_
  refine Be (Al Oi) (k := ?_)
  refine oY ?_
  refine K9 ?_
  refine Dk _ (sa (sd (sk (sk (sa (sk (sk (sk sz)))))))) ?_
  refine Cp ?_
  refine Cy (Ac call143) (fun w1 hw1 => kM w1 (n_ := 4096) (hG := hG.ext hw1.ext_out) (hE := hE.ext hw1.ext_out)) (k := ?_)
  refine Kf ?_
  refine cZ ?_
  refine oU ?_
  refine Hg Ag kW (k := fun r711 hr711 => ?_)
  refine De ([(Frame.mk 5 f.stream ((Kd 4096).1))] : List Frame) (List.nil_append _) Jq underlying39 Bj Bt.nil (List.Perm.refl _) (Cl.lit (xs := ([(Frame.mk 5 f.stream ((Kd 4096).1))] : List Frame)) Bj) ⟨by omega, by omega⟩ (n := 0) (m := 1) (k := fun ax694 cx694 Bx694 hox694 => ?_)
  refine oT ?_
  refine Cn _ (sa (sd (sa (sk (sk (sa (sk (sk (sk sz))))))))) ?_
  refine Dj results134 Bw.nil ?_
  refine Z0 ?_
  refine Jt ?_
  refine sQ ?_
  refine sU ?_
  refine vL ?_
  refine Ak Ag J2 (k := fun r712 hr712 => ?_)
  refine Lr ?_
  refine Uu ?_
  refine wA ?_
  refine iI ?_
  refine lE ?_
  refine rX ?_
  refine Dz ?_
  refine Cn _ (sd (sa (sa (sk (sk (sa (sk (sk (sk sz))))))))) ?_
  refine vX ?_
  refine Cn _ (sa (sa (sd (sk (sa (sk (sk (sk sz)))))))) ?_
  refine Dj results85 Bw.nil ?_
  refine Jr ?_
  refine BF4 ?_
  refine Rl ?_
  refine Aa results14 (Bw.agg isAgg26 sizeOf26 rfl me rfl (Bw.tmp rfl (Bw.agg isAgg43 sizeOf43 rfl me rfl z0))) (fun w1 hw1 => ?_)
  exact ⟨a1_682, c1_682, ax694, cx694, (B1_682 ++ Bx694), (rq ((((((((((((((((hF.f hq1).f hq4).neg hq8).neg hq9).neg hq12).neg hq21).pos hq22).f hq23).rn2 hJ8).t hq24).pos hq25).pos hq26).neg hq27).t hq28).neg hq29).neg hq30)), (Ax (L := (B1_682 ++ Bx694)) (hw1.perm ((qb (qb q0)).trans (qd (qb (qb q0))))) (nA rfl).symm), (by rw [((((((((((((((((hF.f hq1).f hq4).neg hq8).neg hq9).neg hq12).neg hq21).pos hq22).f hq23).rn2 hJ8).t hq24).pos hq25).pos hq26).neg hq27).t hq28).neg hq29).neg hq30).eq]; exact (ho1_682.slb Ba)), (by rw [((((((((((((((((hF.f hq1).f hq4).neg hq8).neg hq9).neg hq12).neg hq21).pos hq22).f hq23).rn2 hJ8).t hq24).pos hq25).pos hq26).neg hq27).t hq28).neg hq29).neg hq30).eq]; exact (hox694.slb Bj)), (by rw [((((((((((((((((hF.f hq1).f hq4).neg hq8).neg hq9).neg hq12).neg hq21).pos hq22).f hq23).rn2 hJ8).t hq24).pos hq25).pos hq26).neg hq27).t hq28).neg hq29).neg hq30).eq]; first | exact lb | (rw [Ap z3]; omega)), (by rw [((((((((((((((((hF.f hq1).f hq4).neg hq8).neg hq9).neg hq12).neg hq21).pos hq22).f hq23).rn2 hJ8).t hq24).pos hq25).pos hq26).neg hq27).t hq28).neg hq29).neg hq30).eq]; first | exact lb | (rw [Ap z3]; omega))⟩
 refine Bu (Al Lc) (k := ?_)
 refine Bu z51 (k := ?_)
 refine K7 ?_
 refine Bu (Al Jn) (k := ?_)
 refine Bu (Al Wx) (k := ?_)
 refine Bu z51 (k := ?_)
 refine Bu z81 (k := ?_)
 refine Ub ?_
 refine Be Kv (k := ?_)
 refine AD8 ?_
 refine sL ?_
 refine rH ?_
 refine Kf ?_
 refine Ak Ag eG (k := fun r714 hr714 => ?_)
 refine Ak Ag z65 (k := fun r715 hr715 => ?_)
 refine AD4 ?_
 refine AG5 ?_
 refine Jt ?_
 refine Uu ?_
 refine AC8 ?_
 refine Kf ?_
 refine Ak Ag z68 (k := fun r716 hr716 => ?_)
 refine Ak Ag (Cj (l := [_]) zeroValue44) (k := fun r717 hr717 => ?_)
 refine AD9 ?_
 refine Z0 ?_
 refine aA ?_
 refine Ik ?_
 refine aA ?_
 refine Sf ?_
 refine fU ?_
 refine Ak Ag z63 (k := fun r718 hr718 => ?_)
 refine AF6 ?_
 refine N1 ?_
 refine AF2 ?_
 refine Nk ?_
 refine AI0 ?_
 refine Ao 4 rfl (fun hq31 => ?_) (fun hq31 => ?_)
 rotate_left
 ·refine Ab 2 rfl ?_
  refine Hz ?_
  refine O2 ?_
  refine Yo ?_
  refine iU ?_
  refine Hg Ag kW (k := fun r726 hr726 => ?_)
  refine De ([(Frame.mk 7 f.stream ([] : An))] : List Frame) (List.nil_append _) Jq underlying39 Bj Bt.nil (List.Perm.refl _) (Cl.lit (xs := ([(Frame.mk 7 f.stream ([] : An))] : List Frame)) Bj) ⟨by omega, by omega⟩ (n := 0) (m := 1) (k := fun ax703 cx703 Bx703 hox703 => ?_)
  refine iV ?_
  refine Aa results14 (Bw.agg isAgg26 sizeOf26 rfl me rfl (Bw.tmp rfl (Bw.agg isAgg43 sizeOf43 rfl me rfl z0))) (fun w1 hw1 => ?_)
  exact ⟨ax1, s.opn.length, ax703, cx703, (Bx2 ++ Bx703), (rq (((((((((((((hF.f hq1).f hq4).neg hq8).neg hq9).neg hq12).neg hq21).pos hq22).f hq23).rn2 hJ8).t hq24).pos hq25).neg hq26).neg hq31)), (Ax (L := (Bx2 ++ Bx703)) (hw1.perm ((qb (qb q0)).trans (qd (qb (qb (qb q0)))))) (nA rfl).symm), (by rw [(((((((((((((hF.f hq1).f hq4).neg hq8).neg hq9).neg hq12).neg hq21).pos hq22).f hq23).rn2 hJ8).t hq24).pos hq25).neg hq26).neg hq31).eq]; exact (hox2.slb Ba)), (by rw [(((((((((((((hF.f hq1).f hq4).neg hq8).neg hq9).neg hq12).neg hq21).pos hq22).f hq23).rn2 hJ8).t hq24).pos hq25).neg hq26).neg hq31).eq]; exact (hox703.slb Bj)), (by rw [(((((((((((((hF.f hq1).f hq4).neg hq8).neg hq9).neg hq12).neg hq21).pos hq22).f hq23).rn2 hJ8).t hq24).pos hq25).neg hq26).neg hq31).eq]; first | exact lb | (rw [Ap z3]; omega)), (by rw [(((((((((((((hF.f hq1).f hq4).neg hq8).neg hq9).neg hq12).neg hq21).pos hq22).f hq23).rn2 hJ8).t hq24).pos hq25).neg hq26).neg hq31).eq]; first | exact lb | (rw [Ap z3]; omega))⟩
 refine Ar (Bm isAgg44) (k := ?_)
 refine dF ?_
 refine Ot ?_
 refine O2 ?_
 refine Uz ?_
 refine Bi rfl (fun hq32 => ?_) (fun hq32 => ?_)
 ·refine Cb ?_
  refine Cp ?_
  refine iU ?_
  refine Hg Ag kW (k := fun r719 hr719 => ?_)
  refine De ([(Frame.mk 7 f.stream ([] : An))] : List Frame) (List.nil_append _) Jq underlying39 Bj Bt.nil (List.Perm.refl _) (Cl.lit (xs := ([(Frame.mk 7 f.stream ([] : An))] : List Frame)) Bj) ⟨by omega, by omega⟩ (n := 0) (m := 1) (k := fun ax696 cx696 Bx696 hox696 => ?_)
  refine iV ?_
  refine Aa results14 (Bw.agg isAgg26 sizeOf26 rfl me rfl (Bw.tmp rfl (Bw.agg isAgg43 sizeOf43 rfl me rfl z0))) (fun w1 hw1 => ?_)
  exact ⟨ax1, s.opn.length, ax696, cx696, (Bx2 ++ Bx696), (rq ((((((((((((((hF.f hq1).f hq4).neg hq8).neg hq9).neg hq12).neg hq21).pos hq22).f hq23).rn2 hJ8).t hq24).pos hq25).neg hq26).pos hq31).pos hq32)), (Ax (L := (Bx2 ++ Bx696)) (hw1.perm ((qb (qb q0)).trans (qd (qb (qb (qb q0)))))) (nA rfl).symm), (by rw [((((((((((((((hF.f hq1).f hq4).neg hq8).neg hq9).neg hq12).neg hq21).pos hq22).f hq23).rn2 hJ8).t hq24).pos hq25).neg hq26).pos hq31).pos hq32).eq]; exact (hox2.slb Ba)), (by rw [((((((((((((((hF.f hq1).f hq4).neg hq8).neg hq9).neg hq12).neg hq21).pos hq22).f hq23).rn2 hJ8).t hq24).pos hq25).neg hq26).pos hq31).pos hq32).eq]; exact (hox696.slb Bj)), (by rw [((((((((((((((hF.f hq1).f hq4).neg hq8).neg hq9).neg hq12).neg hq21).pos hq22).f hq23).rn2 hJ8).t hq24).pos hq25).neg hq26).pos hq31).pos hq32).eq]; first | exact lb | (rw [Ap z3]; omega)), (by rw [((((((((((((((hF.f hq1).f hq4).neg hq8).neg hq9).neg hq12).neg hq21).pos hq22).f hq23).rn2 hJ8).t hq24).pos hq25).neg hq26).pos hq31).pos hq32).eq]; first | exact lb | (rw [Ap z3]; omega))⟩
 refine Vb ?_
 refine Af (Ei runUnderlying260 sizeOf35 1) (k := ?_)
 refine rW ?_
 refine Bq (args := [_, _]) (Ac call137) func137 ntmps137 ?_
 refine Nk ?_
 refine AG8 ?_
 refine BF3 ?_
 have had_50070 := Th x_6 ((Cs f.data).1)
 refine Kf ?_
 refine lI ?_
 refine cZ ?_
 refine Bo 15 rfl (fun hq33 => ?_) (fun hq33 => ?_)
 rotate_left
 ·refine Ab 2 rfl ?_
  refine Hz ?_
  refine Bd results137 z0 ?_
  refine Yo ?_
  refine iU ?_
  refine Hg Ag kW (k := fun r725 hr725 => ?_)
  refine De ([(Frame.mk 7 f.stream ([] : An))] : List Frame) (List.nil_append _) Jq underlying39 Bj Bt.nil (List.Perm.refl _) (Cl.lit (xs := ([(Frame.mk 7 f.stream ([] : An))] : List Frame)) Bj) ⟨by omega, by omega⟩ (n := 0) (m := 1) (k := fun ax702 cx702 Bx702 hox702 => ?_)
  refine iV ?_
  refine Aa results14 (Bw.agg isAgg26 sizeOf26 rfl me rfl (Bw.tmp rfl (Bw.agg isAgg43 sizeOf43 rfl me rfl z0))) (fun w1 hw1 => ?_)
  exact ⟨ax1, s.opn.length, ax702, cx702, (Bx2 ++ Bx702), (rq (((((((((((((((hF.f hq1).f hq4).neg hq8).neg hq9).neg hq12).neg hq21).pos hq22).f hq23).rn2 hJ8).t hq24).pos hq25).neg hq26).pos hq31).neg hq32).f hq33)), (Ax (L := (Bx2 ++ Bx702)) (hw1.perm ((qb (qb q0)).trans (qd (qb (qb (qb q0)))))) (nA rfl).symm), (by rw [(((((((((((((((hF.f hq1).f hq4).neg hq8).neg hq9).neg hq12).neg hq21).pos hq22).f hq23).rn2 hJ8).t hq24).pos hq25).neg hq26).pos hq31).neg hq32).f hq33).eq]; exact (hox2.slb Ba)), (by rw [(((((((((((((((hF.f hq1).f hq4).neg hq8).neg hq9).neg hq12).neg hq21).pos hq22).f hq23).rn2 hJ8).t hq24).pos hq25).neg hq26).pos hq31).neg hq32).f hq33).eq]; exact (hox702.slb Bj)), (by rw [(((((((((((((((hF.f hq1).f hq4).neg hq8).neg hq9).neg hq12).neg hq21).pos hq22).f hq23).rn2 hJ8).t hq24).pos hq25).neg hq26).pos hq31).neg hq32).f hq33).eq]; first | exact lb | (rw [Ap z3]; omega)), (by rw [(((((((((((((((hF.f hq1).f hq4).neg hq8).neg hq9).neg hq12).neg hq21).pos hq22).f hq23).rn2 hJ8).t hq24).pos hq25).neg hq26).pos hq31).neg hq32).f hq33).eq]; first | exact lb | (rw [Ap z3]; omega))⟩
 refine cP ?_
 refine Ot ?_
 refine Bd results137 z0 ?_
 refine Uz ?_
 refine Bi rfl (fun hq34 => ?_) (fun hq34 => ?_)
 ·refine Cb ?_
  refine Cp ?_
  refine iU ?_
  refine Hg Ag kW (k := fun r720 hr720 => ?_)
  refine De ([(Frame.mk 7 f.stream ([] : An))] : List Frame) (List.nil_append _) Jq underlying39 Bj Bt.nil (List.Perm.refl _) (Cl.lit (xs := ([(Frame.mk 7 f.stream ([] : An))] : List Frame)) Bj) ⟨by omega, by omega⟩ (n := 0) (m := 1) (k := fun ax697 cx697 Bx697 hox697 => ?_)
  refine iV ?_
  refine Aa results14 (Bw.agg isAgg26 sizeOf26 rfl me rfl (Bw.tmp rfl (Bw.agg isAgg43 sizeOf43 rfl me rfl z0))) (fun w1 hw1 => ?_)
  exact ⟨ax1, s.opn.length, ax697, cx697, (Bx2 ++ Bx697), (rq ((((((((((((((((hF.f hq1).f hq4).neg hq8).neg hq9).neg hq12).neg hq21).pos hq22).f hq23).rn2 hJ8).t hq24).pos hq25).neg hq26).pos hq31).neg hq32).t hq33).pos hq34)), (Ax (L := (Bx2 ++ Bx697)) (hw1.perm ((qb (qb q0)).trans (qd (qb (qb (qb q0)))))) (nA rfl).symm), (by rw [((((((((((((((((hF.f hq1).f hq4).neg hq8).neg hq9).neg hq12).neg hq21).pos hq22).f hq23).rn2 hJ8).t hq24).pos hq25).neg hq26).pos hq31).neg hq32).t hq33).pos hq34).eq]; exact (hox2.slb Ba)), (by rw [((((((((((((((((hF.f hq1).f hq4).neg hq8).neg hq9).neg hq12).neg hq21).pos hq22).f hq23).rn2 hJ8).t hq24).pos hq25).neg hq26).pos hq31).neg hq32).t hq33).pos hq34).eq]; exact (hox697.slb Bj)), (by rw [((((((((((((((((hF.f hq1).f hq4).neg hq8).neg hq9).neg hq12).neg hq21).pos hq22).f hq23).rn2 hJ8).t hq24).pos hq25).neg hq26).pos hq31).neg hq32).t hq33).pos hq34).eq]; first | exact lb | (rw [Ap z3]; omega)), (by rw [((((((((((((((((hF.f hq1).f hq4).neg hq8).neg hq9).neg hq12).neg hq21).pos hq22).f hq23).rn2 hJ8).t hq24).pos hq25).neg hq26).pos hq31).neg hq32).t hq33).pos hq34).eq]; first | exact lb | (rw [Ap z3]; omega))⟩
 refine Vb ?_
 refine Af (Ei runUnderlying260 sizeOf35 2) (k := ?_)
 refine rW ?_
 refine Bq (args := [_]) (Ac call140) func140 ntmps140 ?_
 refine Mq ?_
 refine Yl ?_
 refine fG ?_
 refine Af Ny (k := ?_)
 refine Z4 ?_
 refine Bd results140 z0 ?_
 refine Uz ?_
 refine Bi rfl (fun hq35 => ?_) (fun hq35 => ?_)
 ·refine Cb ?_
  refine Cp ?_
  refine iU ?_
  refine Hg Ag kW (k := fun r721 hr721 => ?_)
  refine De ([(Frame.mk 7 f.stream ([] : An))] : List Frame) (List.nil_append _) Jq underlying39 Bj Bt.nil (List.Perm.refl _) (Cl.lit (xs := ([(Frame.mk 7 f.stream ([] : An))] : List Frame)) Bj) ⟨by omega, by omega⟩ (n := 0) (m := 1) (k := fun ax698 cx698 Bx698 hox698 => ?_)
  refine iV ?_
  refine Aa results14 (Bw.agg isAgg26 sizeOf26 rfl me rfl (Bw.tmp rfl (Bw.agg isAgg43 sizeOf43 rfl me rfl z0))) (fun w1 hw1 => ?_)
  exact ⟨ax1, s.opn.length, ax698, cx698, (Bx2 ++ Bx698), (rq (((((((((((((((((hF.f hq1).f hq4).neg hq8).neg hq9).neg hq12).neg hq21).pos hq22).f hq23).rn2 hJ8).t hq24).pos hq25).neg hq26).pos hq31).neg hq32).t hq33).neg hq34).pos hq35)), (Ax (L := (Bx2 ++ Bx698)) (hw1.perm ((qb (qb q0)).trans (qd (qb (qb (qb q0)))))) (nA rfl).symm), (by rw [(((((((((((((((((hF.f hq1).f hq4).neg hq8).neg hq9).neg hq12).neg hq21).pos hq22).f hq23).rn2 hJ8).t hq24).pos hq25).neg hq26).pos hq31).neg hq32).t hq33).neg hq34).pos hq35).eq]; exact (hox2.slb Ba)), (by rw [(((((((((((((((((hF.f hq1).f hq4).neg hq8).neg hq9).neg hq12).neg hq21).pos hq22).f hq23).rn2 hJ8).t hq24).pos hq25).neg hq26).pos hq31).neg hq32).t hq33).neg hq34).pos hq35).eq]; exact (hox698.slb Bj)), (by rw [(((((((((((((((((hF.f hq1).f hq4).neg hq8).neg hq9).neg hq12).neg hq21).pos hq22).f hq23).rn2 hJ8).t hq24).pos hq25).neg hq26).pos hq31).neg hq32).t hq33).neg hq34).pos hq35).eq]; first | exact lb | (rw [Ap z3]; omega)), (by rw [(((((((((((((((((hF.f hq1).f hq4).neg hq8).neg hq9).neg hq12).neg hq21).pos hq22).f hq23).rn2 hJ8).t hq24).pos hq25).neg hq26).pos hq31).neg hq32).t hq33).neg hq34).pos hq35).eq]; first | exact lb | (rw [Ap z3]; omega))⟩
 refine cY ?_
 refine Bd results138 z0 ?_
 refine aF ?_
 refine AT0 ?_
 refine Sd ?_
 refine Yl ?_
 refine Z72 ?_
 refine AF9 ?_
 refine Qb ?_
 refine bH (n := s.opn.length) (x0 := default) Fq underlying24 Ba rfl ⟨by omega, by omega⟩ (k := fun ax699 Bx699 hox699 => ?_)
 refine Ji ?_
 refine gQ (n := s.opn.length) Fq underlying24 Ba hox699 q0 (hox2.slj Ba) Ij rfl (kk := fun Bx700 hox700 => ?_)
 refine AI7 ?_
 refine Yl ?_
 refine Af (Al Oi) (k := ?_)
 refine K9 ?_
 refine vZ ?_
 refine AG9 ?_
 refine Z6 ?_
 refine AC3 ?_
 refine Yv (Ac call141) (fun w1 hw1 => kP w1 (x := s.opn) (target := f.stream) (h_x := (hox700.slj Ba) w1 hw1) (n_x := z9)) (k := ?_)
 have hbs_29492 := kN s.opn f.stream
 refine BF9 ?_
 refine Ym ?_
 refine AG9 ?_
 refine AU4 ?_
 refine Hg Ag z8 (k := fun r722 hr722 => ?_)
 refine BJ1 (Ac call142) (fun w1 hw1 => eW w1 (s := s.opn) (i := ((Gb s.opn f.stream).1)) (x := f.stream) (o_s := hox700) (b_s := fun p hp => hw1.own p (by first | exact hp | (simp [hp]; done))) (n_s := z9) (h_v := (Cl.lit (xs := ([f.stream] : List Int)) Ba) w1 hw1.right) (d_v := (hw1.notIn (List.Perm.trans z15 (show List.Perm (Bx700 ++ ((r722, oc [(vi f.stream)] 3) :: ((r716, oc [(vi ((Cs f.data).1.addr)), (vi ((Cs f.data).1.port))] 41) :: ((r359, Obj.map em10 km10) :: (Bx2 ++ ((r6, oc [(vi s.phase), (vt s.name), (vi s.handle.slot), (vi s.handle.gen), (vi s.a), (vi s.b), (vs ax699 s.opn.length s.opn.length), (vi f.kind), (vi f.stream), (vt f.data), (vs r_Sg_a r.slots.gens.length r_Sg_c), (vs r_Su_a r.slots.used.length r_Su_c), (vs r_Sf_a r.slots.free.length r_Sf_c), (vs r_l_a r.l.length r_l_c), (vi r.seq), (vi now), (vs none 0 0), (vi 0), (vi 0), (vt ([] : An)), (vi 0), (vi 0), (vi 0)] 96) :: ((r5, oc [(vi 0), (vi 0), (vt ([] : An)), (vi 0), (vi 0), (vi 0)] 43) :: ((r4, oc [(vi 0), (vt ([] : An)), (vi 0), (vi 0), (vi 0), (vi 0), (vs none 0 0)] 26) :: [])))))))) ((r722, oc [(vi f.stream)] 3) :: (Bx700 ++ ((r716, oc [(vi ((Cs f.data).1.addr)), (vi ((Cs f.data).1.port))] 41) :: ((r359, Obj.map em10 km10) :: (Bx2 ++ ((r6, oc [(vi s.phase), (vt s.name), (vi s.handle.slot), (vi s.handle.gen), (vi s.a), (vi s.b), (vs ax699 s.opn.length s.opn.length), (vi f.kind), (vi f.stream), (vt f.data), (vs r_Sg_a r.slots.gens.length r_Sg_c), (vs r_Su_a r.slots.used.length r_Su_c), (vs r_Sf_a r.slots.free.length r_Sf_c), (vs r_l_a r.l.length r_l_c), (vi r.seq), (vi now), (vs none 0 0), (vi 0), (vi 0), (vt ([] : An)), (vi 0), (vi 0), (vi 0)] 96) :: ((r5, oc [(vi 0), (vi 0), (vt ([] : An)), (vi 0), (vi 0), (vi 0)] 43) :: ((r4, oc [(vi 0), (vt ([] : An)), (vi 0), (vi 0), (vi 0), (vi 0), (vs none 0 0)] 26) :: [])))))))) from (q0.trans (qc q0)))))) (e_v := ⟨r722, _, _, rfl, hw1.own (r722, oc [(vi f.stream)] 3) Ij, fun hk => (hw1.notIn (List.Perm.trans z15 (show List.Perm (Bx700 ++ ((r722, oc [(vi f.stream)] 3) :: ((r716, oc [(vi ((Cs f.data).1.addr)), (vi ((Cs f.data).1.port))] 41) :: ((r359, Obj.map em10 km10) :: (Bx2 ++ ((r6, oc [(vi s.phase), (vt s.name), (vi s.handle.slot), (vi s.handle.gen), (vi s.a), (vi s.b), (vs ax699 s.opn.length s.opn.length), (vi f.kind), (vi f.stream), (vt f.data), (vs r_Sg_a r.slots.gens.length r_Sg_c), (vs r_Su_a r.slots.used.length r_Su_c), (vs r_Sf_a r.slots.free.length r_Sf_c), (vs r_l_a r.l.length r_l_c), (vi r.seq), (vi now), (vs none 0 0), (vi 0), (vi 0), (vt ([] : An)), (vi 0), (vi 0), (vi 0)] 96) :: ((r5, oc [(vi 0), (vi 0), (vt ([] : An)), (vi 0), (vi 0), (vi 0)] 43) :: ((r4, oc [(vi 0), (vt ([] : An)), (vi 0), (vi 0), (vi 0), (vi 0), (vs none 0 0)] 26) :: [])))))))) ((r722, oc [(vi f.stream)] 3) :: (Bx700 ++ ((r716, oc [(vi ((Cs f.data).1.addr)), (vi ((Cs f.data).1.port))] 41) :: ((r359, Obj.map em10 km10) :: (Bx2 ++ ((r6, oc [(vi s.phase), (vt s.name), (vi s.handle.slot), (vi s.handle.gen), (vi s.a), (vi s.b), (vs ax699 s.opn.length s.opn.length), (vi f.kind), (vi f.stream), (vt f.data), (vs r_Sg_a r.slots.gens.length r_Sg_c), (vs r_Su_a r.slots.used.length r_Su_c), (vs r_Sf_a r.slots.free.length r_Sf_c), (vs r_l_a r.l.length r_l_c), (vi r.seq), (vi now), (vs none 0 0), (vi 0), (vi 0), (vt ([] : An)), (vi 0), (vi 0), (vi 0)] 96) :: ((r5, oc [(vi 0), (vi 0), (vt ([] : An)), (vi 0), (vi 0), (vi 0)] 43) :: ((r4, oc [(vi 0), (vt ([] : An)), (vi 0), (vi 0), (vi 0), (vi 0), (vs none 0 0)] 26) :: [])))))))) from (q0.trans (qc q0))))) r722 hk ⟨r722, 0, none⟩ rfl (List.cons_ne_nil (0 : Nat) []) rfl⟩) (hi := z9)) (k := ?_)
 rintro w1_684 e1_684 w2_684 hw1_684 ⟨a1_684, c1_684, B1_684, he_684, hf_684, ho1_684⟩
 refine ⟨_, (B1_684 ++ []), he_684, ((hw1_684.perm (List.Perm.trans z15 (show List.Perm (Bx700 ++ ((r722, oc [(vi f.stream)] 3) :: ((r716, oc [(vi ((Cs f.data).1.addr)), (vi ((Cs f.data).1.port))] 41) :: ((r359, Obj.map em10 km10) :: (Bx2 ++ ((r6, oc [(vi s.phase), (vt s.name), (vi s.handle.slot), (vi s.handle.gen), (vi s.a), (vi s.b), (vs ax699 s.opn.length s.opn.length), (vi f.kind), (vi f.stream), (vt f.data), (vs r_Sg_a r.slots.gens.length r_Sg_c), (vs r_Su_a r.slots.used.length r_Su_c), (vs r_Sf_a r.slots.free.length r_Sf_c), (vs r_l_a r.l.length r_l_c), (vi r.seq), (vi now), (vs none 0 0), (vi 0), (vi 0), (vt ([] : An)), (vi 0), (vi 0), (vi 0)] 96) :: ((r5, oc [(vi 0), (vi 0), (vt ([] : An)), (vi 0), (vi 0), (vi 0)] 43) :: ((r4, oc [(vi 0), (vt ([] : An)), (vi 0), (vi 0), (vi 0), (vi 0), (vs none 0 0)] 26) :: [])))))))) (Bx700 ++ ((r722, oc [(vi f.stream)] 3) :: ((r716, oc [(vi ((Cs f.data).1.addr)), (vi ((Cs f.data).1.port))] 41) :: ((r359, Obj.map em10 km10) :: (Bx2 ++ ((r6, oc [(vi s.phase), (vt s.name), (vi s.handle.slot), (vi s.handle.gen), (vi s.a), (vi s.b), (vs ax699 s.opn.length s.opn.length), (vi f.kind), (vi f.stream), (vt f.data), (vs r_Sg_a r.slots.gens.length r_Sg_c), (vs r_Su_a r.slots.used.length r_Su_c), (vs r_Sf_a r.slots.free.length r_Sf_c), (vs r_l_a r.l.length r_l_c), (vi r.seq), (vi now), (vs none 0 0), (vi 0), (vi 0), (vt ([] : An)), (vi 0), (vi 0), (vi 0)] 96) :: ((r5, oc [(vi 0), (vi 0), (vt ([] : An)), (vi 0), (vi 0), (vi 0)] 43) :: ((r4, oc [(vi 0), (vt ([] : An)), (vi 0), (vi 0), (vi 0), (vi 0), (vs none 0 0)] 26) :: [])))))))) from (List.Perm.refl _)))).tr hf_684).perm z15, ?_⟩
 refine vI ?_
 refine Be (Al Oi) (k := ?_)
 refine oY ?_
 refine K9 ?_
 refine Dk _ (sa (sd (sk (sk (sa (sk (sk (sk sz)))))))) ?_
 refine Cp ?_
 refine Cy (Ac call143) (fun w1 hw1 => kM w1 (n_ := 4096) (hG := hG.ext hw1.ext_out) (hE := hE.ext hw1.ext_out)) (k := ?_)
 refine Kf ?_
 refine cZ ?_
 refine oU ?_
 refine Hg Ag kW (k := fun r723 hr723 => ?_)
 refine De ([(Frame.mk 5 f.stream ((Kd 4096).1))] : List Frame) (List.nil_append _) Jq underlying39 Bj Bt.nil (List.Perm.refl _) (Cl.lit (xs := ([(Frame.mk 5 f.stream ((Kd 4096).1))] : List Frame)) Bj) ⟨by omega, by omega⟩ (n := 0) (m := 1) (k := fun ax701 cx701 Bx701 hox701 => ?_)
 refine oT ?_
 refine Cn _ (sa (sd (sa (sk (sk (sa (sk (sk (sk sz))))))))) ?_
 refine Dj results134 Bw.nil ?_
 refine Z0 ?_
 refine Jt ?_
 refine sQ ?_
 refine sU ?_
 refine vL ?_
 refine Ak Ag J2 (k := fun r724 hr724 => ?_)
 refine Lr ?_
 refine Uu ?_
 refine wA ?_
 refine iI ?_
 refine lE ?_
 refine rX ?_
 refine Dz ?_
 refine Cn _ (sd (sa (sa (sk (sk (sa (sk (sk (sk sz))))))))) ?_
 refine vX ?_
 refine Cn _ (sa (sa (sd (sk (sa (sk (sk (sk sz)))))))) ?_
 refine Dj results85 Bw.nil ?_
 refine Jr ?_
 refine BF4 ?_
 refine Rl ?_
 refine Aa results14 (Bw.agg isAgg26 sizeOf26 rfl me rfl (Bw.tmp rfl (Bw.agg isAgg43 sizeOf43 rfl me rfl z0))) (fun w1 hw1 => ?_)
 exact ⟨a1_684, c1_684, ax701, cx701, (B1_684 ++ Bx701), (rq (((((((((((((((((hF.f hq1).f hq4).neg hq8).neg hq9).neg hq12).neg hq21).pos hq22).f hq23).rn2 hJ8).t hq24).pos hq25).neg hq26).pos hq31).neg hq32).t hq33).neg hq34).neg hq35)), (Ax (L := (B1_684 ++ Bx701)) (hw1.perm ((qb (qb q0)).trans (qd (qb (qb q0))))) (nA rfl).symm), (by rw [(((((((((((((((((hF.f hq1).f hq4).neg hq8).neg hq9).neg hq12).neg hq21).pos hq22).f hq23).rn2 hJ8).t hq24).pos hq25).neg hq26).pos hq31).neg hq32).t hq33).neg hq34).neg hq35).eq]; exact (ho1_684.slb Ba)), (by rw [(((((((((((((((((hF.f hq1).f hq4).neg hq8).neg hq9).neg hq12).neg hq21).pos hq22).f hq23).rn2 hJ8).t hq24).pos hq25).neg hq26).pos hq31).neg hq32).t hq33).neg hq34).neg hq35).eq]; exact (hox701.slb Bj)), (by rw [(((((((((((((((((hF.f hq1).f hq4).neg hq8).neg hq9).neg hq12).neg hq21).pos hq22).f hq23).rn2 hJ8).t hq24).pos hq25).neg hq26).pos hq31).neg hq32).t hq33).neg hq34).neg hq35).eq]; first | exact lb | (rw [Ap z3]; omega)), (by rw [(((((((((((((((((hF.f hq1).f hq4).neg hq8).neg hq9).neg hq12).neg hq21).pos hq22).f hq23).rn2 hJ8).t hq24).pos hq25).neg hq26).pos hq31).neg hq32).t hq33).neg hq34).neg hq35).eq]; first | exact lb | (rw [Ap z3]; omega))⟩

end Go.Proofs.YtdnjanhdnibkfaaGreatDoor.Jd

namespace Go.Proofs.YtdnjanhdnibkfaaGreatDoor.Jd
open Go.Proofs.Tryz
set_option linter.unusedVariables false
set_option linter.unusedSimpArgs false
theorem Me (s : Session) : (Am s).opn.length ≤ 10 ∧ (Am s).name.length ≤ 65 := by
  unfold Am
  refine ⟨?_, ?_⟩
  · simp only [List.length_take]; omega
  · simp only [List.length_take]; omega
theorem Pw (s : Session) : (Am s).a = s.a ∧ (Am s).b = s.b := ⟨rfl, rfl⟩
theorem Ti (f : Frame) : (Aq f).data.length ≤ 513 := by
  unfold Aq
  simp only [List.length_take]; omega
end Go.Proofs.YtdnjanhdnibkfaaGreatDoor.Jd

namespace Go.Proofs.YtdnjanhdnibkfaaGreatDoor.Jd
open Go.Proofs.Tryz
open Go.Proofs
open Go.RowKit (Below)
set_option maxRecDepth 100000
set_option maxHeartbeats 8000000
set_option linter.unusedVariables false
set_option linter.unusedSimpArgs false


theorem uU (w : World) {s_opn_a : Option Addr} {s_opn_c : Nat} {s : Session} (h_s_opn : Sl w eI 1 s_opn_a s.opn) (k_s_opn : s.opn.length ≤ s_opn_c) : Calls Tryz.prog 11 (List.toArray [(Value.agg [(vi s.phase), (vt s.name), (vi s.handle.slot), (vi s.handle.gen), (vi s.a), (vi s.b), (vs s_opn_a s.opn.length s_opn_c)].toArray)]) w fun e w2 => ∃ a1 : Option Addr, ∃ c1 : Nat, ∃ B1 : Av, e = .returned (Value.agg [(vi ((Am s).phase)), (vt ((Am s).name)), (vi ((Am s).handle.slot)), (vi ((Am s).handle.gen)), (vi ((Am s).a)), (vi ((Am s).b)), (vs a1 ((Am s).opn.length) c1)].toArray) ∧ Ej w w2 B1 ∧ Bt eI 1 3 a1 c1 B1 (Am s).opn ∧ (Am s).opn.length ≤ 10 := by
 have hF := Is.refl (Am s)
 refine enter func11 ntmps11 (h := ?_)
 refine Z2 ?_
 refine Ak Ag oH (k := fun r1 hr1 => ?_)
 refine Ak Ag mG (k := fun r2 hr2 => ?_)
 refine Od ?_
 refine AH3 ?_
 refine pF ?_
 refine rS ?_
 refine Af Vk (k := ?_)
 refine Af (Rq (s := s.name) (min s.name.length 65) runUnderlying9 z3 (hj := by first | (split <;> omega) | (dsimp only; split <;> omega))) (k := ?_)
 have hsb1 : (s.name.take (min s.name.length 65)).length = (min s.name.length 65) := by first | omega | (simp only [List.length_take, List.length_drop, List.length_cons, List.length_nil] <;> omega)
 refine pF ?_
 refine Ep (Bn (l' := [_, _, _, _, _, _, _]) sizeOf9) (k := ?_)
 refine Od ?_
 refine Z72 ?_
 refine fG ?_
 refine Af Vk (k := ?_)
 have hl1 : (s.opn.take (min s.opn.length 10)).length = (min s.opn.length 10) := by rw [List.length_take]; first | (split <;> omega) | omega
 refine Af (Hb (s.opn.take (min s.opn.length 10)).length runUnderlying24 (fun w => ⟨_, sizeOf3 w⟩) (hm := z3) (hi := by first | (split <;> omega) | omega)) (k := ?_)
 refine Bb (s.opn.take (min s.opn.length 10)) (List.nil_append _) Fq underlying24 Ba Bt.nil (List.Perm.refl _) ((Cl.of_base h_s_opn).take (min s.opn.length 10)) ⟨by first | omega | (simp only [List.length_take]; omega), by first | omega | (simp only [List.length_take]; omega)⟩ (n := 0) (m := (s.opn.take (min s.opn.length 10)).length) (k := fun ax1 cx1 Bx1 hox1 => ?_)
 refine L4 ?_
 refine Z0 ?_
 refine M1 ?_
 refine kY ?_
 refine Aa results11 (Bw.agg isAgg26 sizeOf26 rfl me rfl Bw.nil) (fun w1 hw1 => ?_)
 exact ⟨ax1, cx1, Bx1, (rq hF), (Ax (L := Bx1) (hw1.perm (List.Perm.refl _)) rfl.symm), (by unfold Am; exact hox1), (by unfold Am; first | omega | (simp only [List.length_take]; omega) | (simp; omega))⟩

theorem H9 (w : World) {f : Frame} : Ha Tryz.prog 12 [(Value.agg [(vi f.kind), (vi f.stream), (vt f.data)].toArray)] w (Value.agg [(vi ((Aq f).kind)), (vi ((Aq f).stream)), (vt ((Aq f).data))].toArray) := by
 have hF := Is.refl (Aq f)
 refine enter func12 ntmps12 (h := ?_)
 refine Z2 ?_
 refine Ak Ag Ll (k := fun r1 hr1 => ?_)
 refine Ak Ag (Cj (l := [_, _, _]) zeroValue28) (k := fun r2 hr2 => ?_)
 refine Od ?_
 refine iH ?_
 refine iH ?_
 refine iW ?_
 refine Af Vk (k := ?_)
 refine Af (Rq (s := f.data) (min f.data.length 513) runUnderlying9 z3 (hj := by first | (split <;> omega) | (dsimp only; split <;> omega))) (k := ?_)
 have hsb1 : (f.data.take (min f.data.length 513)).length = (min f.data.length 513) := by first | omega | (simp only [List.length_take, List.length_drop, List.length_cons, List.length_nil] <;> omega)
 refine Af (Al cB) (k := ?_)
 refine Ep (Bn (l' := [_, _, _]) sizeOf9) (k := ?_)
 refine Od ?_
 refine Af z60 (k := ?_)
 refine Ep (Bn (l' := [_, _, _]) sizeOf28) (k := ?_)
 refine kY ?_
 refine Aa results12 (Bw.agg isAgg28 sizeOf28 rfl me rfl Bw.nil) (fun w1 hw1 => ?_)
 exact ⟨(rq hF), hw1.ext_out⟩

end Go.Proofs.YtdnjanhdnibkfaaGreatDoor.Jd

namespace Go.Proofs.YtdnjanhdnibkfaaGreatDoor
open Go.Proofs.Tryz
open Go.Proofs Go.Proofs.YtdnjanhdnibkfaaGreatDoor.Jd
open Go.ChangeShapes Go.WideShapes Go.ChangeAt Go.RowKit Go.ChangeMaps
set_option maxRecDepth 100000
set_option linter.unusedVariables false
set_option linter.unusedSimpArgs false
theorem Wy : laidOutB Tryz.prog = true := by kernel_rfl
theorem I0 : ownKnob Tryz.prog.godebug = none := by kernel_rfl
section
variable {H : Type} {enc : TypeId × Value → H} {W : World}
theorem Ii {n : Nat} {cs : List Value} {y : DataW H × List MemPlace} (h : DataW.trod enc Tryz.prog W 0 (fun _ => true) true n 3 cs = some y) : ∃ v0 : Int, cs = [Value.int .i64 v0] ∧ (-9223372036854775808 ≤ v0 ∧ v0 ≤ 9223372036854775807) := by
  obtain ⟨m, h1, _, h3⟩ := DataW.trod_int underlying3 h
  exact ⟨m, h1, AK9 h3⟩
theorem qS {n : Nat} {cs : List Value} {y : DataW H × List MemPlace} (h : DataW.trod enc Tryz.prog W 0 (fun _ => true) true n 9 cs = some y) : ∃ v0 : An, cs = [Value.string (bs v0)] := by
  obtain ⟨s, h1, _⟩ := DataW.trod_string underlying9 h
  exact ⟨s.data.toList, by rw [← R2 s]; exact h1⟩
theorem zU {n : Nat} {cs : List Value} {y : DataW H × List MemPlace} (h : DataW.trod enc Tryz.prog W 0 (fun _ => true) true n 23 cs = some y) : ∃ v0 : Int, ∃ v1 : Int, cs = [Value.int .i64 v0, Value.int .i64 v1] ∧ (-9223372036854775808 ≤ v0 ∧ v0 ≤ 9223372036854775807) ∧ (-9223372036854775808 ≤ v1 ∧ v1 ≤ 9223372036854775807) := by
  obtain ⟨xs, m, _, _, hlen, hxl, hf⟩ := DataW.trod_struct underlying23 h
  have hc : cs.length = 2 := Eq.trans hlen z2
  have hxl2 : xs.length = 2 := by simpa using hxl
  have e0 := hf 0 _ rfl
  rw [List.getElem?_eq_getElem z3] at e0
  obtain ⟨v0_0, q0, f0_0⟩ := Ii e0
  have q02 : (cs.drop 0).take 1 = [.int .i64 v0_0] := Eq.trans (congrArg (fun k => (cs.drop 0).take k) (show 1 = Tryz.prog.cellsOf 3 by kernel_rfl)) q0
  have e1 := hf 1 _ rfl
  rw [List.getElem?_eq_getElem z3] at e1
  obtain ⟨v1_0, q1, f1_0⟩ := Ii e1
  have q12 : (cs.drop 1).take 1 = [.int .i64 v1_0] := Eq.trans (congrArg (fun k => (cs.drop 1).take k) (show 1 = Tryz.prog.cellsOf 3 by kernel_rfl)) q1
  refine ⟨v0_0, v1_0, ?_, f0_0, f1_0⟩
  have h0 : cs = cs.drop 0 := rfl
  rw [h0, Cm cs 0 1 1 rfl, q02, Cm cs 1 1 2 rfl, q12, List.drop_of_length_le z3]
  rfl
theorem qT {n : Nat} {cs : List Value} {y : DataW H × List MemPlace} (h : DataW.trod enc Tryz.prog W 0 (fun _ => true) true n 24 cs = some y) : ∃ v0 : Option Addr, ∃ v1 : Nat, ∃ v2 : List Int, cs = [Value.slice v0 v2.length v1] ∧ v2.length ≤ v1 ∧ Sl W eI 1 v0 v2 := by
  obtain ⟨a, c, xs, h1, h2, h3⟩ := aX (enc := eI) (k := 1) underlying24 z2 Ba (E2 underlying3) h
  exact ⟨a, c, xs, h1, h2, h3⟩
theorem Tj {n : Nat} {cs : List Value} {y : DataW H × List MemPlace} (h : DataW.trod enc Tryz.prog W 0 (fun _ => true) true n 26 cs = some y) : ∃ v0 : Int, ∃ v1 : An, ∃ v2 : Int, ∃ v3 : Int, ∃ v4 : Int, ∃ v5 : Int, ∃ v6 : Option Addr, ∃ v7 : Nat, ∃ v8 : List Int, cs = [Value.int .i64 v0, Value.string (bs v1), Value.int .i64 v2, Value.int .i64 v3, Value.int .i64 v4, Value.int .i64 v5, Value.slice v6 v8.length v7] ∧ (-9223372036854775808 ≤ v0 ∧ v0 ≤ 9223372036854775807) ∧ (-9223372036854775808 ≤ v2 ∧ v2 ≤ 9223372036854775807) ∧ (-9223372036854775808 ≤ v3 ∧ v3 ≤ 9223372036854775807) ∧ (-9223372036854775808 ≤ v4 ∧ v4 ≤ 9223372036854775807) ∧ (-9223372036854775808 ≤ v5 ∧ v5 ≤ 9223372036854775807) ∧ v8.length ≤ v7 ∧ Sl W eI 1 v6 v8 := by
  obtain ⟨xs, m, _, _, hlen, hxl, hf⟩ := DataW.trod_struct underlying26 h
  have hc : cs.length = 7 := Eq.trans hlen z2
  have hxl2 : xs.length = 6 := by simpa using hxl
  have e0 := hf 0 _ rfl
  rw [List.getElem?_eq_getElem z3] at e0
  obtain ⟨v0_0, q0, f0_0⟩ := Ii e0
  have q02 : (cs.drop 0).take 1 = [.int .i64 v0_0] := Eq.trans (congrArg (fun k => (cs.drop 0).take k) (show 1 = Tryz.prog.cellsOf 3 by kernel_rfl)) q0
  have e1 := hf 1 _ rfl
  rw [List.getElem?_eq_getElem z3] at e1
  obtain ⟨v1_0, q1⟩ := qS e1
  have q12 : (cs.drop 1).take 1 = [.string (bs v1_0)] := Eq.trans (congrArg (fun k => (cs.drop 1).take k) (show 1 = Tryz.prog.cellsOf 9 by kernel_rfl)) q1
  have e2 := hf 2 _ rfl
  rw [List.getElem?_eq_getElem z3] at e2
  obtain ⟨v2_0, v2_1, q2, f2_0, f2_1⟩ := zU e2
  have q22 : (cs.drop 2).take 2 = [.int .i64 v2_0, .int .i64 v2_1] := Eq.trans (congrArg (fun k => (cs.drop 2).take k) (show 2 = Tryz.prog.cellsOf 23 by kernel_rfl)) q2
  have e3 := hf 3 _ rfl
  rw [List.getElem?_eq_getElem z3] at e3
  obtain ⟨v3_0, q3, f3_0⟩ := Ii e3
  have q32 : (cs.drop 4).take 1 = [.int .i64 v3_0] := Eq.trans (congrArg (fun k => (cs.drop 4).take k) (show 1 = Tryz.prog.cellsOf 3 by kernel_rfl)) q3
  have e4 := hf 4 _ rfl
  rw [List.getElem?_eq_getElem z3] at e4
  obtain ⟨v4_0, q4, f4_0⟩ := Ii e4
  have q42 : (cs.drop 5).take 1 = [.int .i64 v4_0] := Eq.trans (congrArg (fun k => (cs.drop 5).take k) (show 1 = Tryz.prog.cellsOf 3 by kernel_rfl)) q4
  have e5 := hf 5 _ rfl
  rw [List.getElem?_eq_getElem z3] at e5
  obtain ⟨v5_0, v5_1, v5_2, q5, f5_0, f5_1⟩ := qT e5
  have q52 : (cs.drop 6).take 1 = [.slice v5_0 v5_2.length v5_1] := Eq.trans (congrArg (fun k => (cs.drop 6).take k) (show 1 = Tryz.prog.cellsOf 24 by kernel_rfl)) q5
  refine ⟨v0_0, v1_0, v2_0, v2_1, v3_0, v4_0, v5_0, v5_1, v5_2, ?_, f0_0, f2_0, f2_1, f3_0, f4_0, f5_0, f5_1⟩
  have h0 : cs = cs.drop 0 := rfl
  rw [h0, Cm cs 0 1 1 rfl, q02, Cm cs 1 1 2 rfl, q12, Cm cs 2 2 4 rfl, q22, Cm cs 4 1 5 rfl, q32, Cm cs 5 1 6 rfl, q42, Cm cs 6 1 7 rfl, q52, List.drop_of_length_le z3]
  rfl
theorem iB {n : Nat} {cs : List Value} {y : DataW H × List MemPlace} (h : DataW.trod enc Tryz.prog W 0 (fun _ => true) true n 28 cs = some y) : ∃ v0 : Int, ∃ v1 : Int, ∃ v2 : An, cs = [Value.int .i64 v0, Value.int .i64 v1, Value.string (bs v2)] ∧ (-9223372036854775808 ≤ v0 ∧ v0 ≤ 9223372036854775807) ∧ (-9223372036854775808 ≤ v1 ∧ v1 ≤ 9223372036854775807) := by
  obtain ⟨xs, m, _, _, hlen, hxl, hf⟩ := DataW.trod_struct underlying28 h
  have hc : cs.length = 3 := Eq.trans hlen z2
  have hxl2 : xs.length = 3 := by simpa using hxl
  have e0 := hf 0 _ rfl
  rw [List.getElem?_eq_getElem z3] at e0
  obtain ⟨v0_0, q0, f0_0⟩ := Ii e0
  have q02 : (cs.drop 0).take 1 = [.int .i64 v0_0] := Eq.trans (congrArg (fun k => (cs.drop 0).take k) (show 1 = Tryz.prog.cellsOf 3 by kernel_rfl)) q0
  have e1 := hf 1 _ rfl
  rw [List.getElem?_eq_getElem z3] at e1
  obtain ⟨v1_0, q1, f1_0⟩ := Ii e1
  have q12 : (cs.drop 1).take 1 = [.int .i64 v1_0] := Eq.trans (congrArg (fun k => (cs.drop 1).take k) (show 1 = Tryz.prog.cellsOf 3 by kernel_rfl)) q1
  have e2 := hf 2 _ rfl
  rw [List.getElem?_eq_getElem z3] at e2
  obtain ⟨v2_0, q2⟩ := qS e2
  have q22 : (cs.drop 2).take 1 = [.string (bs v2_0)] := Eq.trans (congrArg (fun k => (cs.drop 2).take k) (show 1 = Tryz.prog.cellsOf 9 by kernel_rfl)) q2
  refine ⟨v0_0, v1_0, v2_0, ?_, f0_0, f1_0⟩
  have h0 : cs = cs.drop 0 := rfl
  rw [h0, Cm cs 0 1 1 rfl, q02, Cm cs 1 1 2 rfl, q12, Cm cs 2 1 3 rfl, q22, List.drop_of_length_le z3]
  rfl
end
def Le : List (String × DataW Unit) := [("math/bits.deBruijn32tab", Rows.laid_math_bits_deBruijn32tab), ("math/bits.deBruijn64tab", Rows.laid_math_bits_deBruijn64tab), ("internal/strconv.uint64pow10", Rows.laid_internal_strconv_uint64pow10), ("wicketgate/ports.errPorts", Rows.laid_wicketgate_ports_errPorts), ("wicketgate/ports.errTarget", Rows.laid_wicketgate_ports_errTarget), ("wicketgate/sha.constants", Rows.laid_wicketgate_sha_constants), ("wicketgate/mac.errKey", Rows.laid_wicketgate_mac_errKey), ("wicketgate/mac.errArg", Rows.laid_wicketgate_mac_errArg), ("wicketgate/wire.errArg", Rows.laid_wicketgate_wire_errArg), ("wicketgate/wire.errMore", Rows.laid_wicketgate_wire_errMore), ("wicketgate/wire.errKind", Rows.laid_wicketgate_wire_errKind), ("wicketgate/wire.errLong", Rows.laid_wicketgate_wire_errLong), ("wicketgate/wire.errFrame", Rows.laid_wicketgate_wire_errFrame), ("wicketgate/acl.errRules", Rows.laid_wicketgate_acl_errRules), ("wicketgate/acl.errRule", Rows.laid_wicketgate_acl_errRule), ("wicketgate/acl.errPlace", Rows.laid_wicketgate_acl_errPlace), ("wicketgate/acl.errTarget", Rows.laid_wicketgate_acl_errTarget), ("wicketgate/roles.verbs", Rows.laid_wicketgate_roles_verbs), ("wicketgate/session.errSession", Rows.laid_wicketgate_session_errSession), ("wicketgate/session.errFrame", Rows.laid_wicketgate_session_errFrame), ("wicketgate/session.errStream", Rows.laid_wicketgate_session_errStream)]
noncomputable def Zh (os : Os) : World := { World.holding Tryz.prog os ⟨#[], #[], []⟩ with heap := ((World.holding Tryz.prog os ⟨#[], #[], []⟩).heap.modify 12 fun
      | .cells _ t frozen => .cells #[.iface 317 (.agg #[.pointer (some ⟨23, 93, none⟩)])] t frozen
      | o => o) }
noncomputable def Ew (os : Os) : World := (Zh os).layVars Tryz.prog Le
theorem jf1 : laidOutB Tryz.pinned.checked.prog = true := by kernel_rfl
theorem jf2 : mapsRowed Tryz.pinned.checked.prog = true := by kernel_rfl
theorem jf3 : Tryz.pinned.checked.prog.stopsHeard = true := by kernel_rfl
theorem jf4 : Tryz.pinned.checked.prog.mayEnter = true := by kernel_rfl
theorem jf5 : Tryz.pinned.checked.prog.liftsFinal = Rows.sessionProofsRow.lifted := by kernel_rfl
theorem jf6 : Tryz.pinned.checked.prog.stops = [] := by kernel_rfl
theorem jf7 : Tryz.pinned.checked.prog.stopKnobs = [] := by kernel_rfl
theorem Ud : Tryz.prog.globalNamed "wicketgate/session.errSession" = some 0 := by kernel_rfl
theorem Ue : (Tryz.prog.globals[0]?).map (·.type) = some 93 := by kernel_rfl
theorem Uf : Tryz.prog.globalNamed "wicketgate/session.errFrame" = some 1 := by kernel_rfl
theorem Ug : (Tryz.prog.globals[1]?).map (·.type) = some 93 := by kernel_rfl
theorem gB : Tryz.prog.globalNamed "wicketgate/mac.errArg" = some 2 := by kernel_rfl
theorem gC : (Tryz.prog.globals[2]?).map (·.type) = some 93 := by kernel_rfl
theorem gE : Tryz.prog.globalNamed "wicketgate/ports.errTarget" = some 3 := by kernel_rfl
theorem gF : (Tryz.prog.globals[3]?).map (·.type) = some 93 := by kernel_rfl
theorem Oj : Tryz.prog.globalNamed "wicketgate/acl.errRules" = some 4 := by kernel_rfl
theorem Ok : (Tryz.prog.globals[4]?).map (·.type) = some 93 := by kernel_rfl
theorem Uh : Tryz.prog.globalNamed "wicketgate/session.errStream" = some 5 := by kernel_rfl
theorem Ui : (Tryz.prog.globals[5]?).map (·.type) = some 93 := by kernel_rfl
theorem gG : Tryz.prog.globalNamed "wicketgate/mac.errKey" = some 6 := by kernel_rfl
theorem gH : (Tryz.prog.globals[6]?).map (·.type) = some 93 := by kernel_rfl
theorem gI : Tryz.prog.globalNamed "wicketgate/ports.errPorts" = some 7 := by kernel_rfl
theorem gJ : (Tryz.prog.globals[7]?).map (·.type) = some 93 := by kernel_rfl
theorem Ol : Tryz.prog.globalNamed "wicketgate/acl.errRule" = some 8 := by kernel_rfl
theorem Om : (Tryz.prog.globals[8]?).map (·.type) = some 93 := by kernel_rfl
theorem Oo : Tryz.prog.globalNamed "wicketgate/acl.errPlace" = some 9 := by kernel_rfl
theorem Oq : (Tryz.prog.globals[9]?).map (·.type) = some 93 := by kernel_rfl
theorem Iq : Tryz.prog.globalNamed "wicketgate/acl.errTarget" = some 10 := by kernel_rfl
theorem Ir : (Tryz.prog.globals[10]?).map (·.type) = some 93 := by kernel_rfl
theorem nS : Tryz.prog.globalNamed "wicketgate/wire.errArg" = some 13 := by kernel_rfl
theorem nT : (Tryz.prog.globals[13]?).map (·.type) = some 93 := by kernel_rfl
theorem nU : Tryz.prog.globalNamed "wicketgate/wire.errMore" = some 16 := by kernel_rfl
theorem nV : (Tryz.prog.globals[16]?).map (·.type) = some 93 := by kernel_rfl
theorem nW : Tryz.prog.globalNamed "wicketgate/wire.errKind" = some 17 := by kernel_rfl
theorem nX : (Tryz.prog.globals[17]?).map (·.type) = some 93 := by kernel_rfl
theorem nY : Tryz.prog.globalNamed "wicketgate/wire.errLong" = some 18 := by kernel_rfl
theorem nZ : (Tryz.prog.globals[18]?).map (·.type) = some 93 := by kernel_rfl
theorem oA : Tryz.prog.globalNamed "wicketgate/wire.errFrame" = some 19 := by kernel_rfl
theorem oB : (Tryz.prog.globals[19]?).map (·.type) = some 93 := by kernel_rfl
theorem zV : "*" ++ "errors.errorString" = "*errors.errorString" := by decide
theorem Au (u : TypeId) (h : Tryz.prog.typeName? 3 u = some "*errors.errorString") : u = 400 :=
  typeName_ptr_named (nm := "errors.errorString") (by rw [zV]; kernel_rfl) z2 (by decide) u (by rw [zV]; exact h)

theorem Bg : Tryz.prog.cellsOf 419 = 1 := by kernel_rfl
theorem Bh : Tryz.prog.cellsOf 9 = 1 := by kernel_rfl
end Go.Proofs.YtdnjanhdnibkfaaGreatDoor

namespace Go.Proofs.YtdnjanhdnibkfaaGreatDoor.Jd
open Go.Proofs.Tryz
set_option maxRecDepth 100000
set_option linter.unusedVariables false
set_option linter.unusedSimpArgs false
theorem gc1 {r : Bk} (h : r = (Cv 2).1) : Zb r = true := by subst h; kernel_rfl
theorem gc2 {r : Bk} (h : r = (Cv 2).1) : r.seq = 0 := by subst h; kernel_rfl
theorem gc3 : mZ 3 1 = true := by kernel_rfl
theorem gc4 : Tb ([97, 99, 109, 101] : An) = true := by kernel_rfl
theorem gc5 {r : Bk} (h : r = (Cv 2).1) : (Jc (Bk.mk r.slots r.l (r.seq + 1)) ([97, 99, 109, 101] : An)).2 = false := by subst h; kernel_rfl
theorem gc6 {r : Bk} (h : r = (Cv 2).1) : (Gi r.slots).2.2 = 0 := by subst h; kernel_rfl
theorem gr1 : Ps ([]) = true := by kernel_rfl
theorem gr2 : Vo ([107] : An) = true := by kernel_rfl
theorem gc7 : Ob.2.2 = 0 := by kernel_rfl
end Go.Proofs.YtdnjanhdnibkfaaGreatDoor.Jd

namespace Go.Proofs.YtdnjanhdnibkfaaGreatDoor.Jd
open Go.Proofs.Tryz
open Go.Proofs
open Go.RowKit (Below)
set_option maxRecDepth 100000
set_option maxHeartbeats 8000000
set_option linter.unusedVariables false
set_option linter.unusedSimpArgs false

theorem Y2 (w : World) {ea0 : Addr} {ea1 : Addr} {ea2 : Addr} {ea3 : Addr} {ea4 : Addr} {ea5 : Addr} {ea6 : Addr} {ea7 : Addr} {ea8 : Addr} {ea9 : Addr} {ea10 : Addr} {ea11 : Addr} {ea12 : Addr} {ea13 : Addr} {ea14 : Addr} {ea15 : Addr} (hG : Gl w) (hE : Er w ea0 ea1 ea2 ea3 ea4 ea5 ea6 ea7 ea8 ea9 ea10 ea11 ea12 ea13 ea14 ea15) : Calls Tryz.prog 181 (List.toArray [(vs none 0 0), (vt ([107] : An)), (vi 0), (vi 0), (vi 100)]) w fun e w2 => ∃ a1 : Option Addr, ∃ c1 : Nat, ∃ B1 : Av, e = .returned (Value.tuple [(vs a1 Ob.1.length c1), (vi Ob.2.1), (vi Ob.2.2)].toArray) ∧ Ej w w2 B1 ∧ Bt Ip 4 112 a1 c1 B1 Ob.1 ∧ Ob.1.length ≤ 4 := by
 have hF := Is.refl Ob
 refine enter func181 ntmps181 (h := ?_)
 refine Z2 ?_
 refine Mr ?_
 refine cZ ?_
 refine Sf ?_
 refine Ck ?_
 refine Bq (args := [_, _, _, _, _]) (Ac call229) func229 ntmps229 ?_
 refine Z2 ?_
 refine Ak Ag z31 (k := fun r1 hr1 => ?_)
 refine Ak Ag z31 (k := fun r2 hr2 => ?_)
 refine Mr ?_
 refine Lq ?_
 refine Ib ?_
 refine Cy (Ac call101) (fun w1 hw1 => dX w1 (l := ([])) (h_l := (fun _ _ => Sl.nil) w1 hw1) (n_l := Ng)) (k := ?_)
 refine Af Hi (k := ?_)
 refine Z1 ?_
 refine Dl rfl (fun hq1 => ?_) (fun hq1 => ?_)
 ·exfalso
  exact absurd hq1 (by rw [gr1]; decide)
 have hfhq1 := uA J8
 refine Z3 ?_
 refine Cy (Ac call130) (fun w1 hw1 => dU w1 (key := ([107] : An))) (k := ?_)
 refine Af Hi (k := ?_)
 refine Z1 ?_
 refine Dl rfl (fun hq2 => ?_) (fun hq2 => ?_)
 ·exfalso
  exact absurd hq2 (by rw [gr2]; decide)
 refine Z2 ?_
 refine It ?_
 refine Cy (Ac call208) (fun w1 hw1 => bY w1 (n_ := 0) (least := 0) (most := 1000000000000)) (k := ?_)
 refine D1 ?_
 refine Bo 31 rfl (fun hq3 => ?_) (fun hq3 => ?_)
 ·exfalso
  exact absurd hq3 (by decide)
 have hfhq3 := qD (by simpa using hq3)
 refine Qt ?_
 refine Kj (Ac call208) (fun w1 hw1 => bY w1 (n_ := 0) (least := 0) (most := 1000000000)) (k := ?_)
 refine Ar Hi (k := ?_)
 refine Z5 ?_
 refine Bo 36 rfl (fun hq4 => ?_) (fun hq4 => ?_)
 ·exfalso
  exact absurd hq4 (by decide)
 have hfhq4 := qD (by simpa using hq4)
 refine El ?_
 refine Kj (Ac call208) (fun w1 hw1 => bY w1 (n_ := 100) (least := 1) (most := 1000000000)) (k := ?_)
 refine Ar Hi (k := ?_)
 refine Z5 ?_
 refine Bo 41 rfl (fun hq5 => ?_) (fun hq5 => ?_)
 ·exfalso
  exact absurd hq5 (by decide)
 have hfhq5 := qD (by simpa using hq5)
 refine Qt ?_
 refine El ?_
 refine Ar jD (k := ?_)
 refine Ar Ln (k := ?_)
 refine Af Ft (k := ?_)
 refine Z1 ?_
 refine Zz ?_
 refine aH ?_
 refine Ak Ag z64 (k := fun r3 hr3 => ?_)
 refine N9 ?_
 refine Lr ?_
 refine fU ?_
 refine Bq (args := [_, _]) (Ac call256) func256 ntmps256 ?_
 refine Xv ?_
 refine Lj ?_
 refine sR ?_
 refine AV4 ?_
 refine kZ ?_
 refine Ia ?_
 refine Vc ?_
 refine Bd results256 z0 ?_
 refine Ik ?_
 refine Dk _ (sk (sd (sk sz))) ?_
 refine Jt ?_
 refine lF ?_
 refine It ?_
 refine lF ?_
 refine dE ?_
 refine Af (Cx (cs := [_, _, _, _]) zeroValue112 W3) (k := ?_)
 refine Ak Ag z82 (k := fun r4 hr4 => ?_)
 refine Bb ([(Eb.mk 1 ([107] : An) 0 100)] : List Eb) (List.nil_append _) qL underlying48 Ey Bt.nil (List.Perm.refl _) (Cl.lit (xs := ([(Eb.mk 1 ([107] : An) 0 100)] : List Eb)) Ey) ⟨by omega, by omega⟩ (n := 0) (m := 1) (k := fun ax1 cx1 Bx1 hox1 => ?_)
 refine Ik ?_
 refine Eu ?_
 refine Dk _ (sa (sd (sk (sd sz)))) ?_
 refine Jt ?_
 refine sR ?_
 refine Af Ln (k := ?_)
 refine Ck ?_
 refine Ao 65 rfl (fun hq6 => ?_) (fun hq6 => ?_)
 ·exfalso
  first | omega | exact absurd hq6 (by decide) | (simp at hq6; done) | (simp at hq6; omega)
 refine rJ ?_
 refine Pe ?_
 refine Rk ?_
 refine Eu ?_
 refine Eh mixed 5 [(true, 0), (true, 1), (true, 2), (true, 3), (true, 4)] z2 ?_
 refine Fo ?_
 refine Yr ?_
 refine aJ ?_
 refine aJ ?_
 refine Z83 ?_
 refine Cn _ (sa (sd sz)) ?_
 refine Bd results229 (Bw.tmp rfl (Bw.tmp rfl z0)) ?_
 refine Kf ?_
 refine lI ?_
 refine cZ ?_
 refine Ck ?_
 refine Bq (args := [_]) (Ac call230) func230 ntmps230 ?_
 refine Nk ?_
 refine Ak Ag (Cj (l := [_]) zeroValue380) (k := fun r5 hr5 => ?_)
 refine Jr ?_
 refine Z3 ?_
 refine Af (mW underlying383) (k := ?_)
 refine Cy (args := [Value.nilIface, (Value.iface 383 (Value.pointer (some ⟨r5, 0, none⟩)))]) (Ac call128) (fun w1 hw1 => V3 w1) (k := ?_)
 refine Z0 ?_
 refine Rk ?_
 refine Eu ?_
 refine Dk _ (sd (sa sz)) ?_
 refine Cp ?_
 refine Z4 ?_
 refine Bd results230 z0 ?_
 refine Mr ?_
 refine aC ?_
 refine Aa results181 (Bw.tmp rfl (Bw.tmp rfl z0)) (fun w1 hw1 => ?_)
 exact ⟨ax1, cx1, Bx1, (rq ((((((hF.f hq1).f hq2).f hq3).f hq4).f hq5).neg hq6)), (Ax (L := Bx1) (hw1.perm (List.Perm.refl _)) rfl.symm), (by rw [((((((hF.f hq1).f hq2).f hq3).f hq4).f hq5).neg hq6).eq]; exact hox1), (rl ((((((hF.f hq1).f hq2).f hq3).f hq4).f hq5).neg hq6))⟩

theorem yA (w : World) {r_Sg_a : Option Addr} {r_Sg_c : Nat} {r_Su_a : Option Addr} {r_Su_c : Nat} {r_Sf_a : Option Addr} {r_Sf_c : Nat} {r_l_a : Option Addr} {r_l_c : Nat} {r_l_t : List TA} {ea0 : Addr} {ea1 : Addr} {ea2 : Addr} {ea3 : Addr} {ea4 : Addr} {ea5 : Addr} {ea6 : Addr} {ea7 : Addr} {ea8 : Addr} {ea9 : Addr} {ea10 : Addr} {ea11 : Addr} {ea12 : Addr} {ea13 : Addr} {ea14 : Addr} {ea15 : Addr} {r : Bk} (h_r_Sg : Sl w eI 1 r_Sg_a r.slots.gens) (n_r_Sg : r.slots.gens.length ≤ 1000) (h_r_Su : Sl w eB 1 r_Su_a r.slots.used) (n_r_Su : r.slots.used.length ≤ 1000) (h_r_Sf : Sl w eI 1 r_Sf_a r.slots.free) (n_r_Sf : r.slots.free.length ≤ 1000) (h_r_l : Yz w Ef 8 DT r_l_a r.l r_l_t) (n_r_l : r.l.length ≤ 1000) (k_r_l : r.l.length ≤ r_l_c) (hG : Gl w) (hE : Er w ea0 ea1 ea2 ea3 ea4 ea5 ea6 ea7 ea8 ea9 ea10 ea11 ea12 ea13 ea14 ea15) (hsm : Fs r.l) (hr : r = (Cv 2).1) : Calls Tryz.prog 32 (List.toArray [(Value.agg [(vs r_Sg_a r.slots.gens.length r_Sg_c), (vs r_Su_a r.slots.used.length r_Su_c), (vs r_Sf_a r.slots.free.length r_Sf_c), (vs r_l_a r.l.length r_l_c), (vi r.seq)].toArray), (vi 3), (Value.agg [(vi 1), (vt ([97, 99, 109, 101] : An)), (vi 0), (vi 0), (Value.bool false), (vi 0), (vi 0), (vi 0), (vi 0), (vt ([107] : An)), (vi 100), (vi 0)].toArray), (vi 0)]) w fun e w2 => ∃ a1 : Option Addr, ∃ c1 : Nat, ∃ a2 : Option Addr, ∃ c2 : Nat, ∃ a3 : Option Addr, ∃ c3 : Nat, ∃ a4 : Option Addr, ∃ c4 : Nat, ∃ t4 : List TA, ∃ B : Av, e = .returned (Value.tuple [(Value.agg [(vs a1 ((Bf r).1.slots.gens.length) c1), (vs a2 ((Bf r).1.slots.used.length) c2), (vs a3 ((Bf r).1.slots.free.length) c3), (vs a4 ((Bf r).1.l.length) c4), (vi ((Bf r).1.seq))].toArray), (Value.agg [(vi ((Bf r).2.err)), (vi ((Bf r).2.seq)), (vi ((Bf r).2.handle.slot)), (vi ((Bf r).2.handle.gen)), (vi ((Bf r).2.version)), (vi ((Bf r).2.state))].toArray)].toArray) ∧ Ej w w2 B ∧ Hd B eI 1 a1 (Bf r).1.slots.gens ∧ Hd B eB 1 a2 (Bf r).1.slots.used ∧ Hd B eI 1 a3 (Bf r).1.slots.free ∧ (Kr B Ef 8 DT a4 (Bf r).1.l t4 ∧ (Bf r).1.l.length ≤ c4) ∧ (Bf r).1.slots.gens.length ≤ 1000 ∧ (Bf r).1.slots.used.length ≤ 1000 ∧ (Bf r).1.slots.free.length ≤ 1000 ∧ (Bf r).1.l.length ≤ 1000 := by
 have hF := Is.refl (Bf r)
 refine enter func32 ntmps32 (h := ?_)
 refine Z2 ?_
 refine Ak Ag mH (k := fun r1 hr1 => ?_)
 refine Ak Ag (Lo (l := [_, _, _, _, _, _, _, _, _, _, _, _])) (k := fun r2 hr2 => ?_)
 refine Ak Ag J5 (k := fun r3 hr3 => ?_)
 refine Ak Ag (Cj (l := [_, _, _, _, _, _]) zeroValue76) (k := fun r4 hr4 => ?_)
 refine Jr ?_
 refine Se ?_
 refine Cy (Ac call73) (fun w1 hw1 => G8 w1 (r := r) (h_r_Sg := (Cl.of_base h_r_Sg) w1 hw1) (n_r_Sg := by first | omega | (simp; done) | exact (hsm _ z3).1 | exact (hsm _ z3).2) (h_r_Su := (Cl.of_base h_r_Su) w1 hw1) (n_r_Su := by first | omega | (simp; done) | exact (hsm _ z3).1 | exact (hsm _ z3).2) (h_r_Sf := (Cl.of_base h_r_Sf) w1 hw1) (n_r_Sf := by first | omega | (simp; done) | exact (hsm _ z3).1 | exact (hsm _ z3).2) (h_r_l := (Hn.of_base Je h_r_l).2 w1 hw1) (n_r_l := by first | omega | (simp; done) | exact (hsm _ z3).1 | exact (hsm _ z3).2) (k_r_l := k_r_l) (hsm := by first | omega | (simp; done) | exact (hsm _ z3).1 | exact (hsm _ z3).2)) (k := ?_)
 refine D1 ?_
 refine Bo 18 rfl (fun hq1 => ?_) (fun hq1 => ?_)
 ·exfalso
  rw [gc1 hr] at hq1; cases hq1
 have hfhq1 := X2 J8
 refine Ar (Al Oh) (k := ?_)
 refine Qt ?_
 refine Ar Qg (k := ?_)
 refine Z5 ?_
 refine Ao 23 rfl (fun hq2 => ?_) (fun hq2 => ?_)
 ·exfalso
  have := gc2 hr; omega
 refine N2 ?_
 refine Z5 ?_
 refine sF ?_
 refine Pe ?_
 refine Rk ?_
 refine Se ?_
 refine Kq (Ac call74) (fun w1 hw1 => X0 w1 (r := r) (h_r_Sg := (Cl.of_base h_r_Sg) w1 hw1) (n_r_Sg := by first | omega | (simp; done) | exact (hsm _ z3).1 | exact (hsm _ z3).2) (h_r_Su := (Cl.of_base h_r_Su) w1 hw1) (n_r_Su := by first | omega | (simp; done) | exact (hsm _ z3).1 | exact (hsm _ z3).2) (h_r_Sf := (Cl.of_base h_r_Sf) w1 hw1) (n_r_Sf := by first | omega | (simp; done) | exact (hsm _ z3).1 | exact (hsm _ z3).2) (h_r_l := (Hn.of_base Je h_r_l).2 w1 hw1) (n_r_l := by first | omega | (simp; done) | exact (hsm _ z3).1 | exact (hsm _ z3).2) (k_r_l := k_r_l) (hsm := by first | omega | (simp; done) | exact (hsm _ z3).1 | exact (hsm _ z3).2)) (k := ?_)
 rintro w1_1 e1_1 w2_1 hw1_1 ⟨a1_1, c1_1, a2_1, c2_1, a3_1, c3_1, a4_1, c4_1, t4_1, B_1, he_1, hf_1, hs1_1, hs2_1, hs3_1, hs4_1, hl1_1, hl2_1, hl3_1, hl4_1⟩
 refine ⟨_, _, he_1, hw1_1.fresh hf_1, ?_⟩
 refine lR ?_
 refine Od ?_
 refine AV5 ?_
 refine dE ?_
 refine Af (Al Oh) (k := ?_)
 refine Ep (Bn (l' := [_, _, _, _, _]) sizeOf3) (k := ?_)
 refine Jr ?_
 refine Z3 ?_
 refine Af (Al zP) (k := ?_)
 refine It ?_
 refine Cy (Ac call75) (fun w1 hw1 => V6 w1 (n_ := 3) (v := 1) (hG := hG.ext hw1.ext_out) (hE := hE.ext hw1.ext_out)) (k := ?_)
 refine Rf ?_
 refine Dl rfl (fun hq3 => ?_) (fun hq3 => ?_)
 ·exfalso
  rw [gc3] at hq3; cases hq3
 have hfhq3 := AO0 (by simpa using hq3)
 refine Py ?_
 refine Se ?_
 refine Af (Ch isAgg86 sizeOf86) (k := ?_)
 refine Ck ?_
 refine Bq (args := [_, _, _]) (Ac call76) func76 ntmps76 ?_
 refine Z2 ?_
 refine Ak Ag mH (k := fun r5 hr5 => ?_)
 refine Ak Ag (Lo (l := [_, _, _, _, _, _, _, _, _, _, _, _])) (k := fun r6 hr6 => ?_)
 refine Ak Ag J5 (k := fun r7 hr7 => ?_)
 refine Ak Ag eG (k := fun r8 hr8 => ?_)
 refine Ik ?_
 refine Z2 ?_
 refine Af (Al zP) (k := ?_)
 refine It ?_
 refine Nj ?_
 refine Z2 ?_
 refine Af Tp (k := ?_)
 refine Z1 ?_
 refine J3 ?_
 refine O3 ?_
 refine Af (Ch isAgg86 sizeOf86) (k := ?_)
 refine Ck ?_
 refine Bq (args := [_, _, _]) (Ac call126) func126 ntmps126 ?_
 refine Z2 ?_
 refine Ak Ag mH (k := fun r9 hr9 => ?_)
 refine Ak Ag (Lo (l := [_, _, _, _, _, _, _, _, _, _, _, _])) (k := fun r10 hr10 => ?_)
 refine Ak Ag J5 (k := fun r11 hr11 => ?_)
 refine Ak Ag eG (k := fun r12 hr12 => ?_)
 refine Ik ?_
 refine Z2 ?_
 refine Af (Al qP) (k := ?_)
 refine Sj ?_
 refine Cy (Ac call177) (fun w1 hw1 => kG w1 (s := ([97, 99, 109, 101] : An))) (k := ?_)
 refine Rf ?_
 refine Dl rfl (fun hq4 => ?_) (fun hq4 => ?_)
 ·exfalso
  rw [gc4] at hq4; cases hq4
 refine Yq ?_
 refine Se ?_
 refine Af (Al qP) (k := ?_)
 refine Sj ?_
 refine Cy (Ac call41) (fun w1 hw1 => nM w1 (r := (Bk.mk r.slots r.l (r.seq + 1))) (name := ([97, 99, 109, 101] : An)) (h_r_Sg := (Hd.slj hs1_1) w1 hw1) (n_r_Sg := by first | omega | (simp; done) | exact (hsm _ z3).1 | exact (hsm _ z3).2) (h_r_Su := (Hd.slj hs2_1) w1 hw1) (n_r_Su := by first | omega | (simp; done) | exact (hsm _ z3).1 | exact (hsm _ z3).2) (h_r_Sf := (Hd.slj hs3_1) w1 hw1) (n_r_Sf := by first | omega | (simp; done) | exact (hsm _ z3).1 | exact (hsm _ z3).2) (h_r_l := (Kr.j hs4_1.1 sh).2 w1 hw1) (n_r_l := by first | omega | (simp; done) | exact (hsm _ z3).1 | exact (hsm _ z3).2) (k_r_l := hs4_1.2)) (k := ?_)
 refine Kf ?_
 refine Lq ?_
 refine Z3 ?_
 refine Z0 ?_
 refine Dl rfl (fun hq5 => ?_) (fun hq5 => ?_)
 ·exfalso
  rw [gc5 hr] at hq5; cases hq5
 refine Ua ?_
 refine AF3 ?_
 refine Kq (Ac call180) (fun w1 hw1 => U8 w1 (s := r.slots) (h_s_gens := (Hd.slj hs1_1) w1 hw1) (n_s_gens := by first | omega | (simp; done) | exact (hsm _ z3).1 | exact (hsm _ z3).2) (h_s_used := (Hd.slj hs2_1) w1 hw1) (n_s_used := by first | omega | (simp; done) | exact (hsm _ z3).1 | exact (hsm _ z3).2) (h_s_free := (Hd.slj hs3_1) w1 hw1) (n_s_free := by first | omega | (simp; done) | exact (hsm _ z3).1 | exact (hsm _ z3).2)) (k := ?_)
 rintro w1_2 e1_2 w2_2 hw1_2 ⟨a1_2, c1_2, a2_2, c2_2, a3_2, c3_2, B_2, he_2, hf_2, hs1_2, hs2_2, hs3_2, hl1_2, hl2_2, hl3_2⟩
 refine ⟨_, _, he_2, hw1_2.fresh hf_2, ?_⟩
 refine Kf ?_
 refine Af Ju (k := ?_)
 refine Ak Ag J6 (k := fun r13 hr13 => ?_)
 refine Ak Ag (Cj (l := [_, _]) zeroValue23) (k := fun r14 hr14 => ?_)
 refine rM ?_
 refine Iv ?_
 refine cU ?_
 refine Bi rfl (fun hq6 => ?_) (fun hq6 => ?_)
 ·exfalso
  exact hq6 (gc6 hr)
 refine Ua ?_
 refine Af (Al AO2) (k := ?_)
 refine Sj ?_
 refine Ck ?_
 refine Af (Al AO3) (k := ?_)
 refine It ?_
 refine Kq (Ac call181) (fun w1 hw1 => Y2 w1 (hG := hG.ext hw1.ext_out) (hE := hE.ext hw1.ext_out)) (k := ?_)
 rintro w1_3 e1_3 w2_3 hw1_3 ⟨a1_3, c1_3, B1_3, he_3, hf_3, ho1_3, hl1_3⟩
 refine ⟨_, _, he_3, hw1_3.fresh hf_3, ?_⟩
 refine Kf ?_
 refine lI ?_
 refine D4 ?_
 refine cU ?_
 refine Bi rfl (fun hq7 => ?_) (fun hq7 => ?_)
 ·exfalso
  exact hq7 gc7
 refine Ua ?_
 refine Af z51 (k := ?_)
 refine Af (Al qP) (k := ?_)
 refine Sj ?_
 refine Ck ?_
 refine Af (Cx (cs := [_, _, _, _, _, _, _, _]) zeroValue50 AS2) (k := ?_)
 refine Ak Ag eG (k := fun r15 hr15 => ?_)
 refine pE ?_
 refine Jr ?_
 refine Dk _ (sk (sa (sd (sk (sa (sk (sk (sd (sk (sk (sk (sk (sk (sa (sk (sk (sk (sk sz)))))))))))))))))) ?_
 refine Cp ?_
 refine sM ?_
 refine Af (Al qM) (k := ?_)
 refine Ep (Bn (l' := [_, _, _, _, _]) sizeOf31) (k := ?_)
 refine Jr ?_
 refine Dk _ (sk (sa (sd (sa (sk (sk (sk (sk (sk (sk (sk (sa (sk (sk (sk (sk sz)))))))))))))))) ?_
 refine Fz _ _ (vp ((qa (qc (qc q0))).trans (qa (qa (qc (qc q0))))) (nC (nC nE))) mixed 7 [(true, 0), (true, 1), (true, 3), (false, 2), (false, 4), (false, 5), (true, 6)] z2 ?_
 refine Be (Ch isAgg34 sizeOf34) (k := ?_)
 refine Be (Ch isAgg50 sizeOf50) (k := ?_)
 refine Be (Ch isAgg50 sizeOf50) (k := ?_)
 refine tC (Ac call182) (fun w1 hw1 => AO4 w1 (xs := r.l) (ts := t4_1) (x := (Ah.mk ((Gi r.slots).2.1) ([97, 99, 109, 101] : An) 1 1 ([]) Ob.1 0)) (v := (TA.mk none 0 a1_3 c1_3)) ((Kr.j hs4_1.1 sh).2 w1 hw1) Tt hs4_1.2) (k := ?_)
 rintro w1_5 e1_5 w2_5 hw1_5 ⟨a1_5, c1_5, B1_5, he_5, hf_5, ho1_5⟩
 refine ⟨_, _, _, he_5, hf_5, rfl, ?_⟩
 have hdp8 : Dr (B_1 ++ (B1_3 ++ [])) DT (Xm r.l (Ah.mk ((Gi r.slots).2.1) ([97, 99, 109, 101] : An) 1 1 ([]) Ob.1 0)) (kI r.l t4_1 (Ah.mk ((Gi r.slots).2.1) ([97, 99, 109, 101] : An) 1 1 ([]) Ob.1 0) (TA.mk none 0 a1_3 c1_3)) := Dr.put ((Dr.of hs4_1.1).mono sh) (Dr.one (B := (B_1 ++ (B1_3 ++ []))) (D := DT) (fun w hw => ⟨Sl.nil, (ho1_3.sl Ey (tQ hw)), Ij, ho1_3.le'⟩))
 have hpx_5 := kJ r.l (Ah.mk ((Gi r.slots).2.1) ([97, 99, 109, 101] : An) 1 1 ([]) Ob.1 0)
 refine fW (V' := ((r11, _) :: ((r12, _) :: []))) (Bn (l' := [_, _, _, _, _]) sizeOf34) (k := ?_)
 refine fW (V' := ((r11, _) :: ((r12, _) :: []))) z45 (k := ?_)
 refine K4 ?_
 refine Cn _ (sk (sk (sa (sd (sa (sa (sd (sk (sk (sk (sk (sa (sk (sk (sk (sk sz)))))))))))))))) ?_
 refine Bd results126 (Bw.agg isAgg34 sizeOf34 rfl me rfl (Bw.agg isAgg50 sizeOf50 rfl me rfl z0)) ?_
 refine K0 ?_
 refine Af Ju (k := ?_)
 refine lR ?_
 refine pE ?_
 refine fI ?_
 refine Cn _ (sd (sd (sa (sa (sa (sk (sk (sd (sd (sa (sk (sk (sk (sk sz)))))))))))))) ?_
 refine Bd results76 (Bw.agg isAgg34 sizeOf34 rfl me rfl (Bw.agg isAgg50 sizeOf50 rfl me rfl z0)) ?_
 refine Kf ?_
 refine Af Ju (k := ?_)
 refine Ak Ag J5 (k := fun r16 hr16 => ?_)
 refine Ak Ag eG (k := fun r17 hr17 => ?_)
 refine lR ?_
 refine vN ?_
 refine Dk _ (sk (sk (sa (sa (sa (sd (sd (sa (sk (sk (sd (sk sz)))))))))))) ?_
 refine yU (σ1 := Nat) (fun r258 => ((r258, oc [(vi 0), (vi (r.seq + 1)), (vi ((Gi r.slots).2.1.slot)), (vi ((Gi r.slots).2.1.gen)), (vi 1), (vi 1)] 76) :: ((r17, oc [(vi ((Gi r.slots).2.1.slot)), (vi ((Gi r.slots).2.1.gen)), (vt ([97, 99, 109, 101] : An)), (vi 1), (vi 1), (vs none 0 0), (vs a1_3 Ob.1.length c1_3), (vi 0)] 50) :: ((r16, oc [(vs a1_2 ((Gi r.slots).1.gens.length) c1_2), (vs a2_2 ((Gi r.slots).1.used.length) c2_2), (vs a3_2 ((Gi r.slots).1.free.length) c3_2), (vs a1_5 ((Xm r.l (Ah.mk ((Gi r.slots).2.1) ([97, 99, 109, 101] : An) 1 1 ([]) Ob.1 0)).length) c1_5), (vi (r.seq + 1))] 34) :: (B1_5 ++ (B1_3 ++ (B_2 ++ (B_1 ++ ((r4, oc [(vi 0), (vi 0), (vi 0), (vi 0), (vi 0), (vi 0)] 76) :: ((r3, oc [(vs none 0 0), (vs none 0 0), (vs none 0 0), (vs none 0 0), (vi 0)] 34) :: ((r1, oc [(vs a1_1 r.slots.gens.length c1_1), (vs a2_1 r.slots.used.length c2_1), (vs a3_1 r.slots.free.length c3_1), (vs a4_1 r.l.length c4_1), (vi (r.seq + 1))] 34) :: []))))))))))) (fun r258 => [(4, (Value.pointer (some ⟨r1, 0, none⟩))), (8, (Value.pointer (some ⟨r3, 0, none⟩))), (9, (Value.pointer (some ⟨r4, 0, none⟩))), (10, (Value.pointer (some ⟨r16, 0, none⟩))), (12, Value.nilIface), (13, (Value.pointer (some ⟨r258, 0, none⟩)))]) (fun r258 => Is () ()) ?_ ?_
 ·skip
  refine Xx (V := []) mixed 12 z2 ?_
  refine Ct 0 rfl z2 Gf (k := ?_)
  refine Ct 2 rfl z2 (Al Oh) (k := ?_)
  refine Ct 3 rfl z2 J9 (k := ?_)
  refine Ct 4 rfl z2 (Al Lc) (k := ?_)
  refine Ct 5 rfl z2 z51 (k := ?_)
  refine Ct 6 rfl z2 (Al qN) (k := ?_)
  refine Ct 7 rfl z2 J9 (k := ?_)
  refine Ct 8 rfl z2 (Al Qp) (k := ?_)
  refine Ct 9 rfl z2 J9 (k := ?_)
  refine Cc [1, 11] z2 rfl (List.forall_mem_cons.2 ⟨?_, (List.forall_mem_cons.2 ⟨?_, nofun⟩)⟩)
  ·skip
   refine BG7 ?_
   refine Cc [11] z2 rfl (List.forall_mem_cons.2 ⟨?_, nofun⟩)
   ·skip
    refine fX rfl Ag (Cj (l := [_, _, _, _, _, _]) zeroValue76) (k := fun r258 hr258 => ?_)
    refine D2 ?_
    refine Ep (Bn (l' := [_, _, _, _, _, _]) sizeOf76) (k := ?_)
    refine Dz ?_
    exact aZ r258 (Is.refl ()) se (List.Perm.refl _)
  ·skip
   refine fX rfl Ag (Cj (l := [_, _, _, _, _, _]) zeroValue76) (k := fun r258 hr258 => ?_)
   refine Cc [1] z2 rfl (List.forall_mem_cons.2 ⟨?_, nofun⟩)
   ·skip
    refine BG7 ?_
    refine D2 ?_
    refine Ep (Bn (l' := [_, _, _, _, _, _]) sizeOf76) (k := ?_)
    refine Dz ?_
    exact aZ r258 (Is.refl ()) se (List.Perm.refl _)
 intro r258 hJ1
 refine Du ?_
 refine Eu ?_
 refine Eu ?_
 refine Dk _ (sk (sd (sk (sa (sa (sa (sa (sk (sk (sk sz)))))))))) ?_
 refine Cp ?_
 refine Af (Al AO1) (k := ?_)
 refine Af (Bm isAgg44) (k := ?_)
 refine AV5 ?_
 refine Af (Cx (cs := [_, _, _, _, _, _]) zeroValue76 AS3) (k := ?_)
 refine Ak Ag (Cj (l := [_, _, _, _, _, _]) zeroValue76) (k := fun r298 hr298 => ?_)
 refine Ep (Bn (l' := [_, _, _, _, _, _]) sizeOf76) (k := ?_)
 refine Lr ?_
 refine L3 ?_
 refine Rk ?_
 refine Eu ?_
 refine Dk _ (sd (sk (sk (sa (sa (sa (sa (sk (sk (sd sz)))))))))) ?_
 refine Fz _ _ (vp ((qa (qa (qc (qc (qc (qc q0)))))).trans (qa (qa (qa (qc (qc (qc (qc q0)))))))) (nC (nC nE))) mixed 4 [(true, 0), (true, 1), (false, 2), (false, 3)] z2 ?_
 refine Be (Ch isAgg34 sizeOf34) (k := ?_)
 refine Be (Ch isAgg76 sizeOf76) (k := ?_)
 refine fW (V' := ((r3, _) :: ((r4, _) :: []))) (Bn (l' := [_, _, _, _, _]) sizeOf34) (k := ?_)
 refine fW (V' := ((r3, _) :: ((r4, _) :: []))) (Bn (l' := [_, _, _, _, _, _]) sizeOf76) (k := ?_)
 refine Sm ?_
 refine BE2 ?_
 refine Aa results32 (Bw.agg isAgg34 sizeOf34 rfl me rfl (Bw.agg isAgg76 sizeOf76 rfl me rfl Bw.nil)) (fun w1 hw1 => ?_)
 exact ⟨a1_2, c1_2, a2_2, c2_2, a3_2, c3_2, a1_5, c1_5, (kI r.l t4_1 (Ah.mk ((Gi r.slots).2.1) ([97, 99, 109, 101] : An) 1 1 ([]) Ob.1 0) (TA.mk none 0 a1_3 c1_3)), (B_2 ++ (B1_5 ++ (B_1 ++ B1_3))), (rq ((((((((hF.f hq1).neg hq2).f hq3).f hq4).f hq5).neg hq6).neg hq7).rn0 hJ1)), (Ax (L := (B_2 ++ (B1_5 ++ (B_1 ++ B1_3)))) (hw1.perm ((((qb (qb (qb (qb (qd q0))))).trans (qd (qb (qb (qb (qb (qd (qd q0)))))))).trans (qd (qd (qb (qb (qb (qb q0))))))).trans (qd (qd (qd (qb (qb (qb (qb q0))))))))) (nA (nA (nA rfl))).symm), (by rw [((((((((hF.f hq1).neg hq2).f hq3).f hq4).f hq5).neg hq6).neg hq7).rn0 hJ1).eq]; exact (hs1_2.mono z20)), (by rw [((((((((hF.f hq1).neg hq2).f hq3).f hq4).f hq5).neg hq6).neg hq7).rn0 hJ1).eq]; exact (hs2_2.mono z20)), (by rw [((((((((hF.f hq1).neg hq2).f hq3).f hq4).f hq5).neg hq6).neg hq7).rn0 hJ1).eq]; exact (hs3_2.mono z20)), (by rw [((((((((hF.f hq1).neg hq2).f hq3).f hq4).f hq5).neg hq6).neg hq7).rn0 hJ1).eq]; exact ⟨((Bt.nb (U := (B1_5 ++ (B_1 ++ (B1_3 ++ [])))) Ca ho1_5 hdp8 (hB := sh) (hR := sh)).mono sh), (by have h0 := ho1_5.le'; rwa [Hf hdp8.1] at h0)⟩), (rl ((((((((hF.f hq1).neg hq2).f hq3).f hq4).f hq5).neg hq6).neg hq7).rn0 hJ1)), (rl ((((((((hF.f hq1).neg hq2).f hq3).f hq4).f hq5).neg hq6).neg hq7).rn0 hJ1)), (rl ((((((((hF.f hq1).neg hq2).f hq3).f hq4).f hq5).neg hq6).neg hq7).rn0 hJ1)), (rl ((((((((hF.f hq1).neg hq2).f hq3).f hq4).f hq5).neg hq6).neg hq7).rn0 hJ1))⟩

end Go.Proofs.YtdnjanhdnibkfaaGreatDoor.Jd

namespace Go.Proofs.YtdnjanhdnibkfaaGreatDoor.Jd
open Go.Proofs.Tryz
set_option maxRecDepth 100000
set_option linter.unusedVariables false
set_option linter.unusedSimpArgs false
theorem oC : ((Bf (Cv 2).1).1.l.map fun t => (t.rules.length, t.creds.length)) = [(0, 1)] := by kernel_rfl
theorem eX : (Bf (Cv 2).1).1.l.length = 1 := by
  have h := congrArg List.length oC
  simpa using h
theorem mA : Fs (Bf (Cv 2).1).1.l := by
  intro i hi
  have h1 : i = 0 := by have h2 := eX; omega
  subst h1
  have h := congrArg (fun l => l.getD 0 (9, 9)) oC
  have hn := eX
  cases hl : (Bf (Cv 2).1).1.l with
  | nil => rw [hl] at hn; cases hn
  | cons x xs =>
    rw [hl] at h
    simp at h
    obtain ⟨ha, hb⟩ := h
    exact ⟨by simp [ha], by simp [hb]⟩
end Go.Proofs.YtdnjanhdnibkfaaGreatDoor.Jd

namespace Go.Proofs.YtdnjanhdnibkfaaGreatDoor.Jd
open Go.Proofs.Tryz
open Go.Proofs
open Go.RowKit (Below)
set_option maxRecDepth 100000
set_option maxHeartbeats 8000000
set_option linter.unusedVariables false
set_option linter.unusedSimpArgs false
theorem Qs : Bl Tryz.prog 43 0 0 := fun r k w => by simp [Instr.fieldAt, Instr.sureAddr, fieldPlace, Bc]
theorem BK2 : Fh Tryz.prog 86 [(0, 1), (1, 1), (2, 1), (3, 1), (4, 5), (9, 1), (10, 1), (11, 1)] := ⟨_, fun w => runUnderlying86 w, fun w => by simp⟩
theorem yB (w : World) {ea0 : Addr} {ea1 : Addr} {ea2 : Addr} {ea3 : Addr} {ea4 : Addr} {ea5 : Addr} {ea6 : Addr} {ea7 : Addr} {ea8 : Addr} {ea9 : Addr} {ea10 : Addr} {ea11 : Addr} {ea12 : Addr} {ea13 : Addr} {ea14 : Addr} {ea15 : Addr} (hG : Gl w) (hE : Er w ea0 ea1 ea2 ea3 ea4 ea5 ea6 ea7 ea8 ea9 ea10 ea11 ea12 ea13 ea14 ea15) : Ha Tryz.prog 10 [] w (Value.bool Ds) := by
 have hF := Is.refl Ds
 refine enter func10 ntmps10 (h := ?_)
 refine Nk ?_
 refine Kq (Ac call31) (fun w1 hw1 => AN8 w1 (n_ := 2)) (k := ?_)
 rintro w1_1 e1_1 w2_1 hw1_1 ⟨a1_1, c1_1, a2_1, c2_1, a3_1, c3_1, a4_1, c4_1, t4_1, B_1, he_1, hf_1, hs1_1, hs2_1, hs3_1, hs4_1, hl1_1, hl2_1, hl3_1, hl4_1⟩
 refine ⟨_, _, he_1, hw1_1.fresh hf_1, ?_⟩
 refine Kf ?_
 refine Ak Ag J5 (k := fun r1 hr1 => ?_)
 refine lR ?_
 refine Iv ?_
 refine cU ?_
 refine Bi rfl (fun hq1 => ?_) (fun hq1 => ?_)
 ·refine Cb ?_
  refine Lk ?_
  refine Aa results10 z0 (fun w1 hw1 => ?_)
  exact ⟨(rq (hF.pos hq1)), hw1.ext_out⟩
 refine Py ?_
 refine Se ?_
 refine Af (Cx (cs := [_, _, _, _, _, _, _, _, _, _, _, _]) zeroValue86 BK2) (k := ?_)
 refine Kq (Ac call32) (fun w1 hw1 => yA w1 (r := ((Cv 2).1)) (h_r_Sg := (Hd.slj hs1_1) w1 hw1) (n_r_Sg := z1) (h_r_Su := (Hd.slj hs2_1) w1 hw1) (n_r_Su := z1) (h_r_Sf := (Hd.slj hs3_1) w1 hw1) (n_r_Sf := z1) (h_r_l := (Kr.j hs4_1.1 sh).2 w1 hw1) (n_r_l := z1) (k_r_l := hs4_1.2) (hG := hG.ext hw1.ext_out) (hE := hE.ext hw1.ext_out) (hsm := z58) (hr := by rfl)) (k := ?_)
 rintro w1_2 e1_2 w2_2 hw1_2 ⟨a1_2, c1_2, a2_2, c2_2, a3_2, c3_2, a4_2, c4_2, t4_2, B_2, he_2, hf_2, hs1_2, hs2_2, hs3_2, hs4_2, hl1_2, hl2_2, hl3_2, hl4_2⟩
 refine ⟨_, _, he_2, hw1_2.fresh hf_2, ?_⟩
 have hap_65774 := mA
 refine Kf ?_
 refine lR ?_
 refine Jr ?_
 refine Dk _ (sa (sk (sx sz))) ?_
 refine Cp ?_
 refine Kq (Ac call23) (fun w1 hw1 => uR w1 (a := 1) (b := 2) (hG := hG.ext hw1.ext_out) (hE := hE.ext hw1.ext_out)) (k := ?_)
 rintro w1_3 e1_3 w2_3 hw1_3 ⟨a1_3, c1_3, B_3, he_3, hf_3, hs1_3, hl1_3⟩
 refine ⟨_, _, he_3, hw1_3.fresh hf_3, ?_⟩
 refine Kf ?_
 refine Ak Ag mG (k := fun r2 hr2 => ?_)
 refine lS ?_
 refine Z1 ?_
 refine rE ?_
 refine AD6 ?_
 refine Kq (Ac call14) (fun w1 hw1 => Pc w1 (s := ((Df 1 2).1)) (f := (Frame.mk 1 0 ([97, 99, 109, 101] : An))) (r := ((Bf ((Cv 2).1)).1)) (now := 5) (h_s_opn := (Hd.slj hs1_3) w1 hw1) (n_s_opn := z1) (h_r_Sg := (Hd.slj hs1_2) w1 hw1) (n_r_Sg := z1) (h_r_Su := (Hd.slj hs2_2) w1 hw1) (n_r_Su := z1) (h_r_Sf := (Hd.slj hs3_2) w1 hw1) (n_r_Sf := z1) (h_r_l := (Kr.j hs4_2.1 sh).2 w1 hw1) (n_r_l := z1) (k_r_l := hs4_2.2) (hG := hG.ext hw1.ext_out) (hE := hE.ext hw1.ext_out) (hsm := z58)) (k := ?_)
 rintro w1_4 e1_4 w2_4 hw1_4 ⟨a1_4, c1_4, a2_4, c2_4, B_4, he_4, hf_4, hs1_4, hs2_4, hl1_4, hl2_4⟩
 refine ⟨_, _, he_4, hw1_4.fresh hf_4, ?_⟩
 refine Kf ?_
 refine K0 ?_
 refine Ak Ag z36 (k := fun r3 hr3 => ?_)
 refine fC ?_
 refine Ik ?_
 refine Eu ?_
 refine Dk _ (sd (sa (sk (sx (sa (sk sz)))))) ?_
 refine Jt ?_
 refine D0 ?_
 refine Ao 48 rfl (fun hq2 => ?_) (fun hq2 => ?_)
 ·refine Ab 2 rfl ?_
  refine iR ?_
  refine Aa results10 z0 (fun w1 hw1 => ?_)
  exact ⟨(rq ((hF.neg hq1).pos hq2)), hw1.ext_out⟩
 refine El ?_
 refine Ar Ro (k := ?_)
 refine Z5 ?_
 refine Ao 52 rfl (fun hq3 => ?_) (fun hq3 => ?_)
 ·refine Ab 3 rfl ?_
  refine cT ?_
  refine Aa results10 z0 (fun w1 hw1 => ?_)
  exact ⟨(rq (((hF.neg hq1).neg hq2).pos hq3)), hw1.ext_out⟩
 refine B9 ?_
 refine Ar Ro (k := ?_)
 refine Pe ?_
 refine Bi rfl (fun hq4 => ?_) (fun hq4 => ?_)
 ·refine Cb ?_
  refine Lk ?_
  refine Aa results10 z0 (fun w1 hw1 => ?_)
  exact ⟨(rq ((((hF.neg hq1).neg hq2).neg hq3).pos hq4)), hw1.ext_out⟩
 refine Py ?_
 refine Z3 ?_
 refine Af (Cz (n := (Aj ((Df 1 2).1) (Frame.mk 1 0 ([97, 99, 109, 101] : An)) ((Bf ((Cv 2).1)).1) 5).2.1.length) runUnderlying39 sizeOf28 0 (Hd.slj hs2_4) (gD z4) Kc) (k := ?_)
 refine Af (Yw cB) (k := ?_)
 refine Af (Ci isAgg9 0 2 (Hd.slj hs2_4) (gD z4)) (k := ?_)
 refine Cy (Ac call33) (fun w1 hw1 => zJ w1 (key := ([107] : An)) (challenge := ((((Aj ((Df 1 2).1) (Frame.mk 1 0 ([97, 99, 109, 101] : An)) ((Bf ((Cv 2).1)).1) 5).2.1).getD 0 default).data)) (name := ([97, 99, 109, 101] : An)) (n_name := z1) (hG := hG.ext hw1.ext_out) (hE := hE.ext hw1.ext_out)) (k := ?_)
 have han_82480 := tY ([107] : An) ((((Aj ((Df 1 2).1) (Frame.mk 1 0 ([97, 99, 109, 101] : An)) ((Bf ((Cv 2).1)).1) 5).2.1).getD 0 default).data) ([97, 99, 109, 101] : An)
 refine Kf ?_
 refine Lq ?_
 refine rE ?_
 refine Ck ?_
 refine AD6 ?_
 refine Kq (Ac call14) (fun w1 hw1 => Pc w1 (s := ((Aj ((Df 1 2).1) (Frame.mk 1 0 ([97, 99, 109, 101] : An)) ((Bf ((Cv 2).1)).1) 5).1)) (f := (Frame.mk 2 0 ((Kg ([107] : An) ((((Aj ((Df 1 2).1) (Frame.mk 1 0 ([97, 99, 109, 101] : An)) ((Bf ((Cv 2).1)).1) 5).2.1).getD 0 default).data) ([97, 99, 109, 101] : An)).1))) (r := ((Bf ((Cv 2).1)).1)) (now := 5) (h_s_opn := (Hd.slj hs1_4) w1 hw1) (n_s_opn := z1) (h_r_Sg := (Hd.slj hs1_2) w1 hw1) (n_r_Sg := z1) (h_r_Su := (Hd.slj hs2_2) w1 hw1) (n_r_Su := z1) (h_r_Sf := (Hd.slj hs3_2) w1 hw1) (n_r_Sf := z1) (h_r_l := (Kr.j hs4_2.1 sh).2 w1 hw1) (n_r_l := z1) (k_r_l := hs4_2.2) (hG := hG.ext hw1.ext_out) (hE := hE.ext hw1.ext_out) (hsm := z58)) (k := ?_)
 rintro w1_5 e1_5 w2_5 hw1_5 ⟨a1_5, c1_5, a2_5, c2_5, B_5, he_5, hf_5, hs1_5, hs2_5, hl1_5, hl2_5⟩
 refine ⟨_, _, he_5, hw1_5.fresh hf_5, ?_⟩
 refine Kf ?_
 refine K0 ?_
 refine Ak Ag z36 (k := fun r4 hr4 => ?_)
 refine fC ?_
 refine Ik ?_
 refine Dk _ (sk (sa (sx (sk (sa (sk sz)))))) ?_
 refine Cp ?_
 refine D7 ?_
 refine AD6 ?_
 refine Kq (Ac call14) (fun w1 hw1 => Pc w1 (s := ((Aj ((Aj ((Df 1 2).1) (Frame.mk 1 0 ([97, 99, 109, 101] : An)) ((Bf ((Cv 2).1)).1) 5).1) (Frame.mk 2 0 ((Kg ([107] : An) ((((Aj ((Df 1 2).1) (Frame.mk 1 0 ([97, 99, 109, 101] : An)) ((Bf ((Cv 2).1)).1) 5).2.1).getD 0 default).data) ([97, 99, 109, 101] : An)).1)) ((Bf ((Cv 2).1)).1) 5).1)) (f := (Frame.mk 3 1 ([49, 46, 50, 46, 51, 46, 52, 58, 56, 48] : An))) (r := ((Bf ((Cv 2).1)).1)) (now := 5) (h_s_opn := (Hd.slj hs1_5) w1 hw1) (n_s_opn := z1) (h_r_Sg := (Hd.slj hs1_2) w1 hw1) (n_r_Sg := z1) (h_r_Su := (Hd.slj hs2_2) w1 hw1) (n_r_Su := z1) (h_r_Sf := (Hd.slj hs3_2) w1 hw1) (n_r_Sf := z1) (h_r_l := (Kr.j hs4_2.1 sh).2 w1 hw1) (n_r_l := z1) (k_r_l := hs4_2.2) (hG := hG.ext hw1.ext_out) (hE := hE.ext hw1.ext_out) (hsm := z58)) (k := ?_)
 rintro w1_6 e1_6 w2_6 hw1_6 ⟨a1_6, c1_6, a2_6, c2_6, B_6, he_6, hf_6, hs1_6, hs2_6, hl1_6, hl2_6⟩
 refine ⟨_, _, he_6, hw1_6.fresh hf_6, ?_⟩
 refine Kf ?_
 refine K0 ?_
 refine Ak Ag mG (k := fun r5 hr5 => ?_)
 refine Ak Ag z36 (k := fun r6 hr6 => ?_)
 refine fC ?_
 refine Ik ?_
 refine Dk _ (sd (sd (sa (sk (sa (sk (sa (sk sz)))))))) ?_
 refine Cp ?_
 refine D7 ?_
 refine Ck ?_
 refine AD6 ?_
 refine Kq (Ac call14) (fun w1 hw1 => Pc w1 (s := ((Aj ((Aj ((Df 1 2).1) (Frame.mk 1 0 ([97, 99, 109, 101] : An)) ((Bf ((Cv 2).1)).1) 5).1) (Frame.mk 2 0 ((Kg ([107] : An) ((((Aj ((Df 1 2).1) (Frame.mk 1 0 ([97, 99, 109, 101] : An)) ((Bf ((Cv 2).1)).1) 5).2.1).getD 0 default).data) ([97, 99, 109, 101] : An)).1)) ((Bf ((Cv 2).1)).1) 5).1)) (f := (Frame.mk 2 0 ((Kg ([107] : An) ((((Aj ((Df 1 2).1) (Frame.mk 1 0 ([97, 99, 109, 101] : An)) ((Bf ((Cv 2).1)).1) 5).2.1).getD 0 default).data) ([97, 99, 109, 101] : An)).1))) (r := ((Bf ((Cv 2).1)).1)) (now := 5) (h_s_opn := (Hd.slj hs1_5) w1 hw1) (n_s_opn := z1) (h_r_Sg := (Hd.slj hs1_2) w1 hw1) (n_r_Sg := z1) (h_r_Su := (Hd.slj hs2_2) w1 hw1) (n_r_Su := z1) (h_r_Sf := (Hd.slj hs3_2) w1 hw1) (n_r_Sf := z1) (h_r_l := (Kr.j hs4_2.1 sh).2 w1 hw1) (n_r_l := z1) (k_r_l := hs4_2.2) (hG := hG.ext hw1.ext_out) (hE := hE.ext hw1.ext_out) (hsm := z58)) (k := ?_)
 rintro w1_7 e1_7 w2_7 hw1_7 ⟨a1_7, c1_7, a2_7, c2_7, B_7, he_7, hf_7, hs1_7, hs2_7, hl1_7, hl2_7⟩
 refine ⟨_, _, he_7, hw1_7.fresh hf_7, ?_⟩
 refine Kf ?_
 refine K0 ?_
 refine Ak Ag mG (k := fun r7 hr7 => ?_)
 refine Ak Ag z36 (k := fun r8 hr8 => ?_)
 refine fC ?_
 refine Ik ?_
 refine Dk _ (sk (sk (sa (sa (sk (sa (sk (sx (sd sz))))))))) ?_
 refine Jt ?_
 refine sH ?_
 refine Ao 96 rfl (fun hq5 => ?_) (fun hq5 => ?_)
 rotate_left
 ·refine Ab 2 rfl ?_
  refine oJ ?_
  refine oJ ?_
  refine Ou ?_
  refine oJ ?_
  refine dC ?_
  refine Ou ?_
  refine dC ?_
  refine Yn ?_
  refine Aa results10 z0 (fun w1 hw1 => ?_)
  exact ⟨(rq (((((hF.neg hq1).neg hq2).neg hq3).neg hq4).neg hq5)), hw1.ext_out⟩
 refine cP ?_
 refine Jh ?_
 refine Ao 100 rfl (fun hq6 => ?_) (fun hq6 => ?_)
 rotate_left
 ·refine Ab 3 rfl ?_
  refine oJ ?_
  refine Ou ?_
  refine oJ ?_
  refine dC ?_
  refine Ou ?_
  refine dC ?_
  refine Yn ?_
  refine Aa results10 z0 (fun w1 hw1 => ?_)
  exact ⟨(rq ((((((hF.neg hq1).neg hq2).neg hq3).neg hq4).pos hq5).neg hq6)), hw1.ext_out⟩
 refine fK ?_
 refine Jh ?_
 refine Ao 105 rfl (fun hq7 => ?_) (fun hq7 => ?_)
 rotate_left
 ·refine Ab 3 rfl ?_
  refine Ou ?_
  refine oJ ?_
  refine dC ?_
  refine Ou ?_
  refine dC ?_
  refine Yn ?_
  refine Aa results10 z0 (fun w1 hw1 => ?_)
  exact ⟨(rq (((((((hF.neg hq1).neg hq2).neg hq3).neg hq4).pos hq5).pos hq6).neg hq7)), hw1.ext_out⟩
 refine B9 ?_
 refine dF ?_
 refine Jh ?_
 refine Ao 110 rfl (fun hq8 => ?_) (fun hq8 => ?_)
 rotate_left
 ·refine Ab 5 rfl ?_
  refine oJ ?_
  refine dC ?_
  refine Ou ?_
  refine dC ?_
  refine Yn ?_
  refine Aa results10 z0 (fun w1 hw1 => ?_)
  exact ⟨(rq ((((((((hF.neg hq1).neg hq2).neg hq3).neg hq4).pos hq5).pos hq6).pos hq7).neg hq8)), hw1.ext_out⟩
 refine El ?_
 refine Ar (Cz (n := (Aj ((Aj ((Df 1 2).1) (Frame.mk 1 0 ([97, 99, 109, 101] : An)) ((Bf ((Cv 2).1)).1) 5).1) (Frame.mk 2 0 ((Kg ([107] : An) ((((Aj ((Df 1 2).1) (Frame.mk 1 0 ([97, 99, 109, 101] : An)) ((Bf ((Cv 2).1)).1) 5).2.1).getD 0 default).data) ([97, 99, 109, 101] : An)).1)) ((Bf ((Cv 2).1)).1) 5).2.1.length) runUnderlying39 sizeOf28 0 (Hd.slj hs2_5) (gD z4) Kc) (k := ?_)
 refine Ar (Gt isAgg28 sizeOf28 0 (Hd.slj hs2_5) (gD z4)) (k := ?_)
 refine Ar z77 (k := ?_)
 refine Ar (aV (X6 _ _ _ _ _ _ _ _)) (k := ?_)
 refine Jh ?_
 refine Ao 117 rfl (fun hq9 => ?_) (fun hq9 => ?_)
 rotate_left
 ·refine Ab 3 rfl ?_
  refine dC ?_
  refine Ou ?_
  refine dC ?_
  refine Yn ?_
  refine Aa results10 z0 (fun w1 hw1 => ?_)
  exact ⟨(rq (((((((((hF.neg hq1).neg hq2).neg hq3).neg hq4).pos hq5).pos hq6).pos hq7).pos hq8).neg hq9)), hw1.ext_out⟩
 refine cQ ?_
 refine Jh ?_
 refine Ao 122 rfl (fun hq10 => ?_) (fun hq10 => ?_)
 rotate_left
 ·refine Ab 2 rfl ?_
  refine oJ ?_
  refine Ou ?_
  refine dC ?_
  refine Yn ?_
  refine Aa results10 z0 (fun w1 hw1 => ?_)
  exact ⟨(rq ((((((((((hF.neg hq1).neg hq2).neg hq3).neg hq4).pos hq5).pos hq6).pos hq7).pos hq8).pos hq9).neg hq10)), hw1.ext_out⟩
 refine cP ?_
 refine Jh ?_
 refine Ao 126 rfl (fun hq11 => ?_) (fun hq11 => ?_)
 rotate_left
 ·refine Ab 3 rfl ?_
  refine Ou ?_
  refine dC ?_
  refine Yn ?_
  refine Aa results10 z0 (fun w1 hw1 => ?_)
  exact ⟨(rq (((((((((((hF.neg hq1).neg hq2).neg hq3).neg hq4).pos hq5).pos hq6).pos hq7).pos hq8).pos hq9).pos hq10).neg hq11)), hw1.ext_out⟩
 refine B9 ?_
 refine dF ?_
 refine Jh ?_
 refine Ao 131 rfl (fun hq12 => ?_) (fun hq12 => ?_)
 rotate_left
 ·refine Ab 5 rfl ?_
  refine dC ?_
  refine Yn ?_
  refine Aa results10 z0 (fun w1 hw1 => ?_)
  exact ⟨(rq ((((((((((((hF.neg hq1).neg hq2).neg hq3).neg hq4).pos hq5).pos hq6).pos hq7).pos hq8).pos hq9).pos hq10).pos hq11).neg hq12)), hw1.ext_out⟩
 refine El ?_
 refine Ar (Cz (n := (Aj ((Aj ((Aj ((Df 1 2).1) (Frame.mk 1 0 ([97, 99, 109, 101] : An)) ((Bf ((Cv 2).1)).1) 5).1) (Frame.mk 2 0 ((Kg ([107] : An) ((((Aj ((Df 1 2).1) (Frame.mk 1 0 ([97, 99, 109, 101] : An)) ((Bf ((Cv 2).1)).1) 5).2.1).getD 0 default).data) ([97, 99, 109, 101] : An)).1)) ((Bf ((Cv 2).1)).1) 5).1) (Frame.mk 3 1 ([49, 46, 50, 46, 51, 46, 52, 58, 56, 48] : An)) ((Bf ((Cv 2).1)).1) 5).2.1.length) runUnderlying39 sizeOf28 0 (Hd.slj hs2_6) (gD z4) Kc) (k := ?_)
 refine Ar (Yw Ww) (k := ?_)
 refine Ar (Ci isAgg3 0 0 (Hd.slj hs2_6) (gD z4)) (k := ?_)
 refine dF ?_
 refine Jh ?_
 refine Ao 138 rfl (fun hq13 => ?_) (fun hq13 => ?_)
 rotate_left
 ·refine Ab 2 rfl ?_
  refine oJ ?_
  refine Yn ?_
  refine Aa results10 z0 (fun w1 hw1 => ?_)
  exact ⟨(rq (((((((((((((hF.neg hq1).neg hq2).neg hq3).neg hq4).pos hq5).pos hq6).pos hq7).pos hq8).pos hq9).pos hq10).pos hq11).pos hq12).neg hq13)), hw1.ext_out⟩
 refine cP ?_
 refine Jh ?_
 refine Ao 142 rfl (fun hq14 => ?_) (fun hq14 => ?_)
 rotate_left
 ·refine Ab 3 rfl ?_
  refine Yn ?_
  refine Aa results10 z0 (fun w1 hw1 => ?_)
  exact ⟨(rq ((((((((((((((hF.neg hq1).neg hq2).neg hq3).neg hq4).pos hq5).pos hq6).pos hq7).pos hq8).pos hq9).pos hq10).pos hq11).pos hq12).pos hq13).neg hq14)), hw1.ext_out⟩
 refine fK ?_
 refine Jh ?_
 refine Ao 147 rfl (fun hq15 => ?_) (fun hq15 => ?_)
 rotate_left
 ·refine Ab 3 rfl ?_
  refine Hz ?_
  refine Aa results10 z0 (fun w1 hw1 => ?_)
  exact ⟨(rq (((((((((((((((hF.neg hq1).neg hq2).neg hq3).neg hq4).pos hq5).pos hq6).pos hq7).pos hq8).pos hq9).pos hq10).pos hq11).pos hq12).pos hq13).pos hq14).neg hq15)), hw1.ext_out⟩
 refine cQ ?_
 refine Ot ?_
 refine Aa results10 z0 (fun w1 hw1 => ?_)
 exact ⟨(rq (((((((((((((((hF.neg hq1).neg hq2).neg hq3).neg hq4).pos hq5).pos hq6).pos hq7).pos hq8).pos hq9).pos hq10).pos hq11).pos hq12).pos hq13).pos hq14).pos hq15)), hw1.ext_out⟩

end Go.Proofs.YtdnjanhdnibkfaaGreatDoor.Jd

namespace Go.Proofs.YtdnjanhdnibkfaaGreatDoor.Jd
open Go.Proofs.Tryz
open Go.Proofs
open Go.RowKit (Below)
set_option maxRecDepth 100000
set_option maxHeartbeats 8000000
set_option linter.unusedVariables false
set_option linter.unusedSimpArgs false
theorem BB5 (a0 b0 : Int) (a1 b1 : Int) (n : Nat) (w : World) : (Op.equalIn (n + 2) 41 (Value.agg [vi a0, vi a1].toArray) (Value.agg [vi b0, vi b1].toArray)).run Tryz.prog w = .ok (decide (a0 = b0 ∧ a1 = b1)) w := by
 rw [show n + 2 = (n + 1) + 1 from rfl]
 unfold Op.equalIn
 simp [part, aW (P := Tryz.prog) (t := 3) n .i64 _ _ runUnderlying3]
 by_cases h0 : a0 = b0 <;> by_cases h1 : a1 = b1 <;> simp_all
theorem BB6 (a0 b0 : Int) (a1 b1 : Int) (a2 b2 : An) (a3 b3 : Int) (a4 b4 : Int) (a5 b5 : Int) (n : Nat) (w : World) : (Op.equalIn (n + 3) 43 (Value.agg [vi a0, vi a1, Value.string (bs a2), vi a3, vi a4, vi a5].toArray) (Value.agg [vi b0, vi b1, Value.string (bs b2), vi b3, vi b4, vi b5].toArray)).run Tryz.prog w = .ok (decide (a0 = b0 ∧ a1 = b1 ∧ a2 = b2 ∧ a3 = b3 ∧ a4 = b4 ∧ a5 = b5)) w := by
 have hs0 := BB5 a4 b4 a5 b5 n w
 rw [show n + 3 = (n + 2) + 1 from rfl]
 unfold Op.equalIn
 simp [part, aW (P := Tryz.prog) (t := 3) (n + 1) .i64 _ _ runUnderlying3, dL (P := Tryz.prog) (t := 9) (n + 1) _ _ runUnderlying9, hs0] at *
 by_cases h0 : a0 = b0 <;> by_cases h1 : a1 = b1 <;> by_cases h2 : a2 = b2 <;> by_cases h3 : a3 = b3 <;> by_cases h4 : a4 = b4 <;> by_cases h5 : a5 = b5 <;> simp_all
theorem AS5 (x y : Operand) (a0 b0 : Int) (a1 b1 : Int) (a2 b2 : An) (a3 b3 : Int) (a4 b4 : Int) (a5 b5 : Int) (w : World) : (do eqGuard .eql 43 x y (Value.agg [vi a0, vi a1, Value.string (bs a2), vi a3, vi a4, vi a5].toArray) (Value.agg [vi b0, vi b1, Value.string (bs b2), vi b3, vi b4, vi b5].toArray); binOp .eql 43 (Value.agg [vi a0, vi a1, Value.string (bs a2), vi a3, vi a4, vi a5].toArray) (Value.agg [vi b0, vi b1, Value.string (bs b2), vi b3, vi b4, vi b5].toArray) : Sem Value).run Tryz.prog w = .ok (.bool (decide (a0 = b0 ∧ a1 = b1 ∧ a2 = b2 ∧ a3 = b3 ∧ a4 = b4 ∧ a5 = b5))) w := by
 have h2 : (binOp .eql 43 (Value.agg [vi a0, vi a1, Value.string (bs a2), vi a3, vi a4, vi a5].toArray) (Value.agg [vi b0, vi b1, Value.string (bs b2), vi b3, vi b4, vi b5].toArray)).run Tryz.prog w = .ok (.bool (decide (a0 = b0 ∧ a1 = b1 ∧ a2 = b2 ∧ a3 = b3 ∧ a4 = b4 ∧ a5 = b5))) w := by
  show (do pure (.bool (← Op.equal 43 _ _)) : Sem Value).run Tryz.prog w = _
  simp only [Sem.run_bind, Op.equal, Op.maxDepth, BB6 a0 b0 a1 b1 a2 b2 a3 b3 a4 b4 a5 b5 9997, Result.andThen_ok, Sem.run_pure]
 simp [eqGuard]
 simpa using h2
end Go.Proofs.YtdnjanhdnibkfaaGreatDoor.Jd

namespace Go.Proofs.YtdnjanhdnibkfaaGreatDoor.Jd.SlT
open Go.Proofs.Tryz
open Go.Proofs
open Go.RowKit (Below)
set_option maxRecDepth 100000
set_option linter.unusedVariables false
set_option linter.unusedSimpArgs false
def BB7 (n : Int) : Bool := decide (n < 0 ∨ 1000000000 < n)
def BK3 (gl : List Int) (ul : List Bool) : Bool := decide (1 ≤ gl.length ∧ gl.length ≤ 64 ∧ ul.length = gl.length)
theorem qU {α : Type} [Inhabited α] {xs : List α} {k : Nat} (h : k < xs.length) : xs.getD k default = xs[k] := by simp [List.getD, h]
theorem take_succ' {α : Type} [Inhabited α] {xs : List α} {k : Nat} (h : k < xs.length) : xs.take (k + 1) = xs.take k ++ [xs.getD k default] := by
  rw [List.take_add_one, List.getElem?_eq_getElem h, qU h]; rfl
def qV : Nat → List Bool → List Nat
  | _, [] => []
  | i, true :: r => i :: qV (i + 1) r
  | i, false :: r => qV (i + 1) r
def BN7 (l : List Bool) : Nat := (qV 0 l).length
def AS6 (ul : List Bool) (fl : List Int) : Prop := (∀ x ∈ fl, 0 ≤ x ∧ x < ul.length ∧ ul.getD x.toNat default = false) ∧ fl.Nodup
instance (ul : List Bool) (fl : List Int) : Decidable (AS6 ul fl) := inferInstanceAs (Decidable (_ ∧ _))
def Y3 (gl : List Int) (ul : List Bool) (fl : List Int) : Bool := BK3 gl ul && !(gl.any BB7) && decide (AS6 ul fl ∧ (gl.length : Int) - (BN7 ul : Int) = (fl.length : Int))
def oD (gl : List Int) (ul : List Bool) : List (Int × Int) := (qV 0 ul).map fun i : Nat => ((i : Int), gl.getD i default)
abbrev BB8 := List Int × List Bool × List Int
def kQ (fl : List Int) : Int := fl.getD ((fl.length : Int) - 1).toNat default
def BK4 (gl : List Int) (ul : List Bool) (fl : List Int) : BB8 × (Int × Int) × Int :=
  if Y3 gl ul fl then
    if fl.length = 0 ∨ gl.getD (kQ fl).toNat default = 1000000000 then (([], [], []), (0, 0), 92)
    else ((gl.set (kQ fl).toNat (gl.getD (kQ fl).toNat default + 1), ul.set (kQ fl).toNat true, fl.take (fl.length - 1)), (kQ fl, gl.getD (kQ fl).toNat default + 1), 0)
  else (([], [], []), (0, 0), 90)
/-- What taking gives. -/
structure BN8 (gl : List Int) (ul : List Bool) (fl : List Int) (i : Nat) : Prop where
  right : Y3 gl ul fl = true
  pos : fl.length ≠ 0
  last : kQ fl = (i : Int)
  lt : i < gl.length
  free : ul[i]? = some false
  gen : 0 ≤ gl.getD i default ∧ gl.getD i default < 1000000000
  eq : BK4 gl ul fl = ((gl.set i (gl.getD i default + 1), ul.set i true, fl.take (fl.length - 1)), ((i : Int), gl.getD i default + 1), 0)


end Go.Proofs.YtdnjanhdnibkfaaGreatDoor.Jd.SlT

namespace Go.Proofs.YtdnjanhdnibkfaaGreatDoor.Jd
open Go.Proofs.Tryz
open Go.Proofs
set_option maxRecDepth 100000
set_option linter.unusedVariables false
set_option linter.unusedSimpArgs false
def lst (a : Int) : List Int → Int
  | [] => a
  | x :: r => lst x r
theorem Y4 : ∀ {l : List Int} {a : Int}, (a :: l).Pairwise (· < ·) → a ≤ lst a l
  | [], a, h => Int.le_refl _
  | x :: r, a, h => by
    have h1 := (List.pairwise_cons.1 h)
    have h2 := h1.1 x List.mem_cons_self
    have h3 := Y4 h1.2
    show a ≤ lst x r
    omega
theorem Y5 : ∀ {l : List Int} {a : Int}, (a :: l).Pairwise (· < ·) → ∀ x ∈ l, x ≤ lst a l
  | [], a, h, x, hx => by cases hx
  | y :: r, a, h, x, hx => by
    have h1 := (List.pairwise_cons.1 h).2
    show x ≤ lst y r
    rcases List.mem_cons.1 hx with rfl | hx
    · exact Y4 h1
    · exact Y5 h1 x hx
theorem Y6 : ∀ {l : List Int} {a : Int}, lst a l = a ∨ lst a l ∈ l
  | [], a => .inl rfl
  | y :: r, a => by
    rcases @Y6 r y with h | h
    · exact .inr (by show lst y r ∈ _; rw [h]; exact List.mem_cons_self)
    · exact .inr (List.mem_cons_of_mem _ h)
/-- Streams that may be open: rising, none beyond the greatest one, few. -/
structure Hy (l : List Int) : Prop where
  up : (0 :: l).Pairwise (· < ·)
  most : ∀ x ∈ l, x ≤ 65535
  len : l.length ≤ 8
theorem Ye (l : List Int) : ∀ n i q, l.length < i + n → i ≤ l.length → ((q :: l.drop i).Pairwise (· < ·) ∧ ∃ j, Eo l n i q = .ok (j, lst q (l.drop i))) ∨ (¬ (q :: l.drop i).Pairwise (· < ·) ∧ Eo l n i q = .error false)
  | 0, i, q, h1, h2 => by omega
  | n + 1, i, q, h1, h2 => by
    unfold Eo
    by_cases hi : i < l.length
    rotate_left
    · rw [if_neg z3, List.drop_eq_nil_of_le z3]
      exact .inl ⟨List.pairwise_singleton _ _, i, rfl⟩
    rw [if_pos z3, Hx hi]
    by_cases hq : l.getD i default ≤ q
    · rw [if_pos hq]
      refine .inr ⟨fun h => ?_, rfl⟩
      have := (List.pairwise_cons.1 h).1 _ List.mem_cons_self
      omega
    rw [if_neg hq]
    rcases Ye l n (i + 1) (l.getD i default) z3 z3 with ⟨g1, j, g2⟩ | ⟨g1, g2⟩
    · refine .inl ⟨List.pairwise_cons.2 ⟨fun x hx => ?_, g1⟩, j, g2⟩
      rcases List.mem_cons.1 hx with rfl | hx
      · omega
      · have := (List.pairwise_cons.1 g1).1 x hx; omega
    · exact .inr ⟨fun h => g1 (List.pairwise_cons.1 h).2, g2⟩
theorem Hm (l : List Int) : Eg l = true ↔ Hy l := by
  unfold Eg
  rcases Ye l (l.length + 1) 0 0 z3 z3 with ⟨g1, j, g2⟩ | ⟨g1, g2⟩
  · rw [g2]
    rw [List.drop_zero] at g1
    simp only [Gu, List.drop_zero]
    constructor
    · intro h
      split at h
      · have h8 := of_decide_eq_true h
        exact ⟨g1, fun x hx => by have := Y5 g1 x hx; omega, by omega⟩
      · cases h
    · rintro ⟨h1, h2, h3⟩
      rw [if_pos (by
        rcases @Y6 l 0 with h | h
        · rw [h]; omega
        · exact h2 _ h)]
      exact decide_eq_true z3
  · rw [g2]
    rw [List.drop_zero] at g1
    simp only [Gu, Bool.false_eq_true, false_iff]
    exact fun h => g1 h.up
theorem uV (l : List Int) [Decidable (Hy l)] : Eg l = decide (Hy l) := by rw [Bool.eq_iff_iff, Hm, decide_eq_true_iff]
theorem Hy.nil : Hy [] := ⟨List.pairwise_singleton _ _, fun x hx => (by cases hx), Ij⟩
/-- Which sessions are right. -/
structure Hc (s : Session) : Prop where
  phase : 0 ≤ s.phase ∧ s.phase ≤ 3
  a : 0 ≤ s.a ∧ s.a ≤ 2147483647
  b : 0 ≤ s.b ∧ s.b ≤ 2147483647
  len : s.name.length ≤ 64
  named : s.name ≠ [] ↔ (s.phase = 1 ∨ s.phase = 2)
  free : s.phase ≠ 2 → (s.handle.slot = 0 ∧ s.handle.gen = 0) ∧ s.opn = []
  opn : Hy s.opn
theorem Fm (s : Session) : Fv s = true ↔ Hc s := by
  unfold Fv
  have key : ∀ (p : Bool × Bool × Bool), (Uc p (fun ok_1 x_2 x_3 => (if ((s.name.length : Nat) : Int) ≤ 64 then (if s.handle.slot = 0 ∧ s.handle.gen = 0 then (if ok_1 = true then (if s.a < 0 then false else (if 2147483647 < s.a then false else (if s.b < 0 then false else (if 2147483647 < s.b then false else (if (decide (s.name ≠ ([] : An)) == x_2) = true then (if x_3 = true then (Eg s.opn) else (if ((s.opn.length : Nat) : Int) = 0 then (Eg s.opn) else false)) else false))))) else false) else (if ok_1 = true then (if s.a < 0 then false else (if 2147483647 < s.a then false else (if s.b < 0 then false else (if 2147483647 < s.b then false else (if (decide (s.name ≠ ([] : An)) == x_2) = true then (if x_3 = true then (Eg s.opn) else false) else false))))) else false)) else (if s.handle.slot = 0 ∧ s.handle.gen = 0 then (if ok_1 = true then (if s.a < 0 then false else (if 2147483647 < s.a then false else (if s.b < 0 then false else (if 2147483647 < s.b then false else false)))) else false) else (if ok_1 = true then (if s.a < 0 then false else (if 2147483647 < s.a then false else (if s.b < 0 then false else (if 2147483647 < s.b then false else false)))) else false)))) = true) ↔ (p.1 = true ∧ (0 ≤ s.a ∧ s.a ≤ 2147483647) ∧ (0 ≤ s.b ∧ s.b ≤ 2147483647) ∧ s.name.length ≤ 64 ∧ (s.name ≠ [] ↔ p.2.1 = true) ∧ (p.2.2 = false → (s.handle.slot = 0 ∧ s.handle.gen = 0) ∧ s.opn = []) ∧ Hy s.opn) := by
    rintro ⟨p1, p2, p3⟩
    simp only [Uc]
    haveI : Decidable (Hy s.opn) := Classical.propDecidable _
    rw [uV s.opn]
    constructor
    · intro h
      repeat' split at h
      all_goals first | (cases h; done) | skip
      all_goals have hs := of_decide_eq_true h
      all_goals refine ⟨by assumption, by omega, by omega, by omega, (by rename_i hp _; cases p2 <;> simp_all), ?_, hs⟩
      all_goals first | (intro h3; simp_all; done) | skip
      all_goals exact fun _ => ⟨by assumption, List.eq_nil_of_length_eq_zero z3⟩
    · rintro ⟨h1, h2, h3, h4, h5, h6, h7⟩
      have e5 : (decide (s.name ≠ ([] : An)) == p2) = true := by
        by_cases hn : s.name = []
        · cases p2 <;> simp_all
        · cases p2 <;> simp_all
      rw [if_pos z3, e5, h1]
      simp only [if_true]
      rw [if_neg (show ¬ s.a < 0 by omega), if_neg (show ¬ 2147483647 < s.a by omega), if_neg (show ¬ s.b < 0 by omega), if_neg (show ¬ 2147483647 < s.b by omega)]
      cases p3 with
      | true => simp [h7]; exact .inr ⟨h2.1, h2.2, h3.1, h3.2⟩
      | false =>
        obtain ⟨g1, g2⟩ := h6 rfl
        rw [if_pos g1]
        simp [g2, h7] at *
        simp_all
  rw [key]
  constructor
  · rintro ⟨h1, h2, h3, h4, h5, h6, h7⟩
    by_cases q0 : s.phase = 0
    · simp only [q0, if_true] at h1 h5 h6
      exact ⟨by omega, h2, h3, h4, by rw [h5]; simp [q0], fun _ => by simpa using h6, h7⟩
    by_cases q1 : s.phase = 1
    · simp only [q1, if_true] at h1 h5 h6
      exact ⟨by omega, h2, h3, h4, by simp at h5; simp [q1, h5], fun _ => by simpa using h6, h7⟩
    by_cases q2 : s.phase = 2
    · simp only [q2] at h1 h5 h6
      exact ⟨by omega, h2, h3, h4, by simp at h5; simp [q2, h5], fun h => absurd q2 h, h7⟩
    by_cases q3 : s.phase = 3
    · simp only [q3] at h1 h5 h6
      exact ⟨by omega, h2, h3, h4, by simp at h5; simp [q3, h5], fun _ => by simpa using h6, h7⟩
    · rw [if_neg q0, if_neg q1, if_neg q2, if_neg q3] at h1
      cases h1
  · rintro ⟨h1, h2, h3, h4, h5, h6, h7⟩
    obtain q | q | q | q : s.phase = 0 ∨ s.phase = 1 ∨ s.phase = 2 ∨ s.phase = 3 := by omega
    all_goals simp only [q] at h5 h6
    all_goals refine ⟨by simp [q], h2, h3, h4, by simp [q] at h5 ⊢; try exact h5, by simp [q] at h6 ⊢; try exact h6, h7⟩
end Go.Proofs.YtdnjanhdnibkfaaGreatDoor.Jd

namespace Go.Proofs.YtdnjanhdnibkfaaGreatDoor.Jd
open Go.Proofs.Tryz
open Go.Proofs
set_option maxRecDepth 100000
set_option linter.unusedVariables false
set_option linter.unusedSimpArgs false
theorem cD (s : Session) (n : Int) : ∀ f i, s.opn.length < i + f → i ≤ s.opn.length → (Fe (Nd s n f i) (fun r => r) (fun _ => false) = true ↔ n ∈ s.opn.drop i)
  | 0, i, h1, h2 => by omega
  | f + 1, i, h1, h2 => by
    unfold Nd
    by_cases hi : i < s.opn.length
    rotate_left
    · rw [if_neg z3, List.drop_eq_nil_of_le z3]; simp [Fe]
    rw [if_pos z3, Hx hi]
    by_cases e : s.opn.getD i default = n
    · rw [if_pos e, e]; simp [Fe]
    · rw [if_neg e, cD s n f (i + 1) z3 z3, List.mem_cons]
      exact ⟨.inr, fun h => h.resolve_left fun e2 => e e2.symm⟩
theorem Rz (s : Session) (n : Int) : Dp s n = true ↔ n ∈ s.opn := by
  have h := cD s n (s.opn.length + 1) 0 z3 z3
  rwa [List.drop_zero] at h
theorem dZ (s : Session) (n : Int) (x : Nat) (o : List Int) : ∀ f (L : List Int) i j, o.length < j + f → j ≤ o.length → i ≤ j → L.length = o.length → L.take i = (o.take j).filter (· ≠ n) → L.drop j = o.drop j → (Gy s n x f L i j).1.take (Gy s n x f L i j).2.1 = o.filter (· ≠ n)
  | 0, L, i, j, h1, h2, h3, h4, h5, h6 => by omega
  | f + 1, L, i, j, h1, h2, h3, h4, h5, h6 => by
    unfold Gy
    by_cases hj : j < o.length
    rotate_left
    · rw [if_neg z3]
      have : j = o.length := by omega
      subst this
      rw [List.take_length] at h5; exact h5
    rw [if_pos z3]
    have eg : L.getD j default = o.getD j default := by
      have e1 : (L.drop j)[0]? = (o.drop j)[0]? := by rw [h6]
      rw [List.getElem?_drop, List.getElem?_drop] at e1
      rw [List.getD_eq_getElem?_getD, List.getD_eq_getElem?_getD]
      simpa using congrArg (fun z => z.getD default) e1
    have hd : L.drop (j + 1) = o.drop (j + 1) := by
      have := congrArg (List.drop 1) h6
      rwa [List.drop_drop, List.drop_drop] at this
    by_cases e : L.getD j default = n
    · rw [if_neg (by simpa using e)]
      refine dZ s n x o f L i (j + 1) z3 z3 z3 h4 ?_ hd
      rw [SlT.take_succ' hj, List.filter_append, h5, ← eg, e]; simp
    · rw [if_pos e]
      have hi : i < L.length := by omega
      refine dZ s n x o f (L.set i (L.getD j default)) (i + 1) (j + 1) z3 z3 z3 (by simpa using h4) ?_ ?_
      · rw [SlT.take_succ' hj, List.filter_append, ← eg, ← h5, SlT.take_succ' (by simpa using hi)]
        have e1 : (L.set i (L.getD j default)).take i = L.take i := by
          rw [List.take_set_of_le z3]
        have e2 : (L.set i (L.getD j default)).getD i default = L.getD j default := by simp [List.getD, hi]
        rw [e1, e2, List.filter_cons_of_pos (by simpa using e)]; rfl
      · rw [List.drop_set_of_lt z3]; exact hd
theorem yC {l : List Int} {n : Int} (h : ∀ x ∈ l, x ≠ n) : l.filter (· ≠ n) = l := List.filter_eq_self.2 fun x hx => by simpa using h x hx
theorem oE (s : Session) (n : Int) : ∀ f k, s.opn.length < k + f → k ≤ s.opn.length → (∀ x ∈ s.opn.take k, x ≠ n) → n ∈ s.opn.drop k → Km s n f k = .error (Session.mk s.phase s.name s.handle s.a s.b (s.opn.filter (· ≠ n)), 0)
  | 0, k, h1, h2, h3, h4 => by omega
  | f + 1, k, h1, h2, h3, h4 => by
    unfold Km
    by_cases hk : k < s.opn.length
    rotate_left
    · rw [List.drop_eq_nil_of_le z3] at h4; cases h4
    rw [if_pos z3]
    by_cases e : s.opn.getD k default = n
    · rw [if_pos e, if_neg z3]
      have g := dZ s n k s.opn (s.opn.length - (k + 1) + 1) s.opn k (k + 1) z3 z3 z3 rfl (by
        rw [SlT.take_succ' hk, List.filter_append, yC h3, e]; simp) rfl
      generalize Gy s n k (s.opn.length - (k + 1) + 1) s.opn k (k + 1) = y at g
      obtain ⟨y1, y2, y3⟩ := y
      simp only [Uc, List.take_take, Nat.min_self]
      simp only at g
      rw [g]
    · rw [if_neg e]
      refine oE s n f (k + 1) z3 z3 (fun x hx => ?_) ?_
      · rw [SlT.take_succ' hk] at hx
        rcases List.mem_append.1 hx with hx | hx
        · exact h3 x hx
        · rw [List.mem_singleton] at hx; rw [hx]; exact e
      · rw [Hx hk] at h4
        exact (List.mem_cons.1 h4).resolve_left fun e2 => e e2.symm
def noS : Session := Session.mk 0 ([] : An) (Handle.mk 0 0) 0 0 []
def cE (s : Session) (n : Int) : Session := Session.mk s.phase s.name s.handle s.a s.b (s.opn.filter (· ≠ n))
theorem eY (s : Session) (n : Int) : Fj s n = if Fv s = true then (if Dp s n = true then (cE s n, 0) else (noS, 181)) else (noS, 180) := by
  unfold Fj
  cases h1 : Fv s with
  | false => rfl
  | true =>
    cases h2 : Dp s n with
    | false => rfl
    | true =>
      have := oE s n (s.opn.length + 1) 0 z3 z3 (fun x hx => by simp at hx) (by rw [List.drop_zero]; exact (Rz s n).1 h2)
      rw [this]; rfl
theorem AS7 {l : List Int} (h : l.Pairwise (· < ·)) {i j : Nat} (hij : i < j) (hj : j < l.length) : l.getD i default < l.getD j default := by
  have := List.pairwise_iff_getElem.1 h i j z3 hj hij
  simpa [List.getD, hj, show i < l.length by omega] using this
theorem Nu {l : List Int} (h : l.Pairwise (· < ·)) (t : Int) : ∀ f i j, j < i + f → i ≤ j → j ≤ l.length → (∀ k, k < i → l.getD k default < t) → (∀ k, j ≤ k → k < l.length → t ≤ l.getD k default) → (∀ k, k < (Fa l t f i j).1 → l.getD k default < t) ∧ (∀ k, (Fa l t f i j).1 ≤ k → k < l.length → t ≤ l.getD k default) ∧ (Fa l t f i j).1 ≤ l.length
  | 0, i, j, h0, h1, h2, h3, h4 => by omega
  | f + 1, i, j, h0, h1, h2, h3, h4 => by
    unfold Fa
    by_cases hij : i < j
    rotate_left
    · rw [if_neg z3]
      exact ⟨h3, fun k hk => h4 k z3, by show i ≤ _; omega⟩
    rw [if_pos z3, if_neg Ij]
    by_cases e : l.getD ((i + j) / 2) default < t
    · rw [if_pos e]
      refine Nu h t f _ j z3 z3 h2 (fun k hk => ?_) h4
      by_cases e2 : k = (i + j) / 2
      · rw [e2]; exact e
      · have := AS7 h (i := k) (j := (i + j) / 2) z3 z3; omega
    · rw [if_neg e]
      refine Nu h t f i _ z3 z3 z3 h3 (fun k hk hl => ?_)
      by_cases e2 : k = (i + j) / 2
      · rw [e2]; omega
      · have := AS7 h (i := (i + j) / 2) (j := k) z3 hl; omega
theorem cF {l : List Int} (h : l.Pairwise (· < ·)) (t : Int) : (∀ k, k < (Gb l t).1.toNat → l.getD k default < t) ∧ (∀ k, (Gb l t).1.toNat ≤ k → k < l.length → t ≤ l.getD k default) ∧ (Gb l t).1.toNat ≤ l.length := by
  have g := Nu h t (l.length + 1) 0 l.length z3 z3 z3 (fun k hk => by omega) (fun k hk hl => by omega)
  have e : (Gb l t).1.toNat = (Fa l t (l.length + 1) 0 l.length).1 := by
    unfold Gb
    generalize Fa l t (l.length + 1) 0 l.length = y
    obtain ⟨y1, y2⟩ := y
    simp only [Iu]
    repeat' split
    all_goals first | rfl | (rename_i h; exact absurd rfl h)
  rw [e]; exact g
theorem cG {l : List Int} {i : Nat} {n x : Int} : x ∈ Mz l i n ↔ x = n ∨ x ∈ l := by
  unfold Mz
  rw [List.mem_append, List.mem_cons]
  constructor
  · rintro (h | h | h)
    · exact .inr (List.mem_of_mem_take h)
    · exact .inl h
    · exact .inr (List.mem_of_mem_drop h)
  · rintro (h | h)
    · exact .inr (.inl h)
    · rw [← List.take_append_drop i l] at h
      rcases List.mem_append.1 h with h | h
      · exact .inl h
      · exact .inr (.inr h)
end Go.Proofs.YtdnjanhdnibkfaaGreatDoor.Jd

namespace Go.Proofs.YtdnjanhdnibkfaaGreatDoor.Jd
open Go.Proofs.Tryz
open Go.Proofs
set_option maxRecDepth 100000
set_option linter.unusedVariables false
set_option linter.unusedSimpArgs false
def Wc : Act := Act.mk 0 0 ([] : An) 0 (Cd.mk 0 0)
def zW (s : Session) : Session := Session.mk 3 ([] : An) (Handle.mk 0 0) s.a s.b []
def uW : Act := Act.mk 6 0 ([] : An) 0 (Cd.mk 0 0)
/-- A proof that makes a session ready. -/
structure iC (s : Session) (f : Frame) (r : Bk) (now : Int) : Prop where
  phase : s.phase = 1
  kind : f.kind = 2
  found : (Ce r s.name).2 = true
  state : (Ce r s.name).1.state = 1
  check : (Nt (Ce r s.name).1.creds now (Ic s.a s.b).1 s.name f.data).2 = true
/-- A stream that may be opened. -/
structure yD (s : Session) (f : Frame) (r : Bk) : Prop where
  phase : s.phase = 2
  kind : f.kind = 3
  has : Dp s f.stream = false
  found : (Ce r s.name).2 = true
  state : (Ce r s.name).1.state = 1
  handle : (Ce r s.name).1.handle.slot = s.handle.slot ∧ (Ce r s.name).1.handle.gen = s.handle.gen
  target : (Cs f.data).2 = 0
  allows : (Ek (Ce r s.name).1.rules (Cs f.data).1).1 = true
  noerr : (Ek (Ce r s.name).1.rules (Cs f.data).1).2.2 = 0
  room : s.opn.length < 8
def eZ (s : Session) (n : Int) : Session := Session.mk s.phase s.name s.handle s.a s.b (Mz s.opn (Gb s.opn n).1.toNat n)
inductive Wd (s : Session) (f : Frame) (r : Bk) (now : Int) : Session × (List Frame) × Act × Int → Prop where
  | badS (h : Fv s = false) : Wd s f r now (noS, [], Wc, 180)
  | badF (h : Fv s = true) (hf : Dy f = false) : Wd s f r now (noS, [], Wc, 33)
  | dead (h : Hc s) (hf : Dy f = true) (hp : s.phase = 3) : Wd s f r now (s, [], Wc, 0)
  | ping (h : Hc s) (hf : Dy f = true) (hp : s.phase ≠ 3) (hk : f.kind = 8) : Wd s f r now (s, [Frame.mk 8 f.stream f.data], Wc, 0)
  | hello (h : Hc s) (hf : Dy f = true) (hp : s.phase = 0) (hk : f.kind = 1) : Wd s f r now (Session.mk 1 f.data s.handle s.a s.b s.opn, [Frame.mk 2 f.stream (Ic s.a s.b).1], Wc, 0)
  | dies (h : Hc s) (hf : Dy f = true) (hp : s.phase ≠ 3) (hk : f.kind ≠ 8) (hn : ¬ iC s f r now) (hm : ¬ yD s f r) : Wd s f r now (zW s, [], uW, 0)
  | ready (h : Hc s) (hf : Dy f = true) (hc : iC s f r now) : Wd s f r now (Session.mk 2 s.name (Ce r s.name).1.handle s.a s.b s.opn, [Frame.mk 1 f.stream s.name], Act.mk 7 0 ([] : An) 0 (Cd.mk 0 0), 0)
  | opened (h : Hc s) (hf : Dy f = true) (hc : yD s f r) : Wd s f r now (eZ s f.stream, [Frame.mk 5 f.stream (Kd 4096).1], Act.mk 1 f.stream ([] : An) 0 (Cs f.data).1, 0)
  | refused (h : Hc s) (hf : Dy f = true) (hp : s.phase = 2) (hk : 3 ≤ f.kind ∧ f.kind ≤ 6) (hm : ¬ yD s f r) : Wd s f r now (s, [Frame.mk 7 f.stream ([] : An)], Wc, 0)
  | asks (h : Hc s) (hf : Dy f = true) (hp : s.phase = 2) (hk : 4 ≤ f.kind ∧ f.kind ≤ 6) (hh : Dp s f.stream = true) (a : Act) (ha : 2 ≤ a.kind ∧ a.kind ≤ 4) (hs : a.stream = f.stream) : Wd s f r now (s, [], a, 0)
  | reset (h : Hc s) (hf : Dy f = true) (hp : s.phase = 2) (hk : f.kind = 7) (hh : Dp s f.stream = true) : Wd s f r now (cE s f.stream, [], Act.mk 5 f.stream ([] : An) 0 (Cd.mk 0 0), 0)
  | gone (h : Hc s) (hf : Dy f = true) (hp : s.phase = 2) (hk : f.kind = 7) (hh : Dp s f.stream = false) : Wd s f r now (s, [], Wc, 0)
end Go.Proofs.YtdnjanhdnibkfaaGreatDoor.Jd

namespace Go.Proofs.YtdnjanhdnibkfaaGreatDoor.Jd
open Go.Proofs.Tryz
set_option maxRecDepth 100000
set_option linter.unusedVariables false
set_option linter.unusedSimpArgs false
theorem Jo : Ds = true := by kernel_rfl
end Go.Proofs.YtdnjanhdnibkfaaGreatDoor.Jd

namespace Go.Proofs.YtdnjanhdnibkfaaGreatDoor.Jd
open Go.Proofs.Tryz
open Go.Proofs
set_option maxRecDepth 100000
set_option linter.unusedVariables false
set_option linter.unusedSimpArgs false
theorem oF {s : Session} {n : Int} : Dp s n = false ↔ n ∉ s.opn := by
  rw [← Rz]; cases Dp s n <;> simp
end Go.Proofs.YtdnjanhdnibkfaaGreatDoor.Jd

