/- Part of the proofs of this seat: walks and plain facts. No condition. -/
import Derived.Test.YtdnjanhdnibkfaaGreatDoorA0
import Derived.Test.YtdnjanhdnibkfaaGreatDoorProg
import Derived.Test.YtdnjanhdnibkfaaGreatDoorChecked
import Derived.WalkKit
import Derived.LaidEql
import Derived.Stop.Asserts
import Derived.RowKitTokens
import Derived.Test.YtdnjanhdnibkfaaGreatDoorA3
import Derived.Test.YtdnjanhdnibkfaaGreatDoorA2
import Derived.Test.YtdnjanhdnibkfaaGreatDoorA1
namespace Go.Proofs.YtdnjanhdnibkfaaGreatDoor.Jd
open Go.Proofs.Tryz
open Go.Proofs
open Go.RowKit (Below)
set_option maxRecDepth 100000
set_option maxHeartbeats 8000000
set_option linter.unusedVariables false
set_option linter.unusedSimpArgs false
def Ip (x : Eb) : List Value := [vi x.id, Value.string (bs x.key), vi x.frm, vi x.to]
theorem Ey : Ed Ip 4 := ⟨by omega, fun _ => rfl, fun _ => rfl⟩
theorem Rx : Bl Tryz.prog 112 0 0 := fun r k w => by simp [Instr.fieldAt, Instr.sureAddr, fieldPlace, Bc]
theorem Vz : Bl Tryz.prog 112 1 1 := fun r k w => by simp [Instr.fieldAt, Instr.sureAddr, fieldPlace, Bc]
theorem kE : Bl Tryz.prog 112 2 2 := fun r k w => by simp [Instr.fieldAt, Instr.sureAddr, fieldPlace, Bc]
theorem kF : Bl Tryz.prog 112 3 3 := fun r k w => by simp [Instr.fieldAt, Instr.sureAddr, fieldPlace, Bc]
theorem Nb : Bl Tryz.prog 255 0 0 := fun r k w => by simp [Instr.fieldAt, Instr.sureAddr, fieldPlace, Bc]
theorem W3 : Fh Tryz.prog 112 [(0, 1), (1, 1), (2, 1), (3, 1)] := ⟨_, fun w => runUnderlying112 w, fun w => by simp⟩
theorem BA8 : Fh Tryz.prog 255 [(0, 4)] := ⟨_, fun w => runUnderlying255 w, fun w => by simp⟩
theorem AN4 (a0 b0 : Int) (a1 b1 : An) (a2 b2 : Int) (a3 b3 : Int) (n : Nat) (w : World) : (Op.equalIn (n + 2) 112 (Value.agg [vi a0, Value.string (bs a1), vi a2, vi a3].toArray) (Value.agg [vi b0, Value.string (bs b1), vi b2, vi b3].toArray)).run Tryz.prog w = .ok (decide (a0 = b0 ∧ a1 = b1 ∧ a2 = b2 ∧ a3 = b3)) w := by
 rw [show n + 2 = (n + 1) + 1 from rfl]
 unfold Op.equalIn
 simp [part, aW (P := Tryz.prog) (t := 3) n .i64 _ _ runUnderlying3, dL (P := Tryz.prog) (t := 9) n _ _ runUnderlying9]
 by_cases h0 : a0 = b0 <;> by_cases h1 : a1 = b1 <;> by_cases h2 : a2 = b2 <;> by_cases h3 : a3 = b3 <;> simp_all
theorem BA9 (x y : Operand) (a0 b0 : Int) (a1 b1 : An) (a2 b2 : Int) (a3 b3 : Int) (w : World) : (do eqGuard .neq 112 x y (Value.agg [vi a0, Value.string (bs a1), vi a2, vi a3].toArray) (Value.agg [vi b0, Value.string (bs b1), vi b2, vi b3].toArray); binOp .neq 112 (Value.agg [vi a0, Value.string (bs a1), vi a2, vi a3].toArray) (Value.agg [vi b0, Value.string (bs b1), vi b2, vi b3].toArray) : Sem Value).run Tryz.prog w = .ok (.bool (decide (¬ (a0 = b0 ∧ a1 = b1 ∧ a2 = b2 ∧ a3 = b3)))) w := by
 have h2 : (binOp .neq 112 (Value.agg [vi a0, Value.string (bs a1), vi a2, vi a3].toArray) (Value.agg [vi b0, Value.string (bs b1), vi b2, vi b3].toArray)).run Tryz.prog w = .ok (.bool (decide (¬ (a0 = b0 ∧ a1 = b1 ∧ a2 = b2 ∧ a3 = b3)))) w := by
  show (do pure (.bool (!(← Op.equal 112 _ _))) : Sem Value).run Tryz.prog w = _
  simp only [Sem.run_bind, Op.equal, Op.maxDepth, AN4 a0 b0 a1 b1 a2 b2 a3 b3 9998, Result.andThen_ok, Sem.run_pure]
  congr 2
  simp
 simp [eqGuard]
 simpa using h2
theorem qL : Ty Tryz.prog 112 4 40 (Value.agg [(vi 0), (vt ([] : An)), (vi 0), (vi 0)].toArray) := ⟨⟨Tryz.t112, by kernel_rfl, rfl, rfl, rfl⟩, rfl⟩
theorem xW (w : World) {s_a : Option Addr} {s_c : Nat} {s : List Eb} (h_s : Sl w Ip 4 s_a s) (n_s : s.length ≤ 1000000) : Calls Tryz.prog 92 (List.toArray [(vs s_a s.length s_c)]) w fun e w2 => ∃ a1 : Option Addr, ∃ c1 : Nat, ∃ B1 : Av, e = .returned (vs a1 s.length c1) ∧ Ej w w2 B1 ∧ Bt Ip 4 112 a1 c1 B1 s := by
 have hF := Is.refl s
 refine enter func92 ntmps92 (h := ?_)
 refine Lj ?_
 refine Af (gP runUnderlying48) (k := ?_)
 refine Z0 ?_
 refine Dl rfl (fun hq1 => ?_) (fun hq1 => ?_)
 ·refine Cb ?_
  refine Lk ?_
  refine Aa results92 z0 (fun w1 hw1 => ?_)
  have hcan0 : ([] : List Eb) = s := by (first | rfl | (exact Kl h_s z53))
  have hlen0 : 0 = s.length := by first | (rw [← hcan0]; done) | (rw [← hcan0]; first | rfl | (simp; done) | (simp only [List.length_append, List.length_take, List.length_drop, List.length_set, List.length_replicate, List.length_cons, List.length_nil, List.length_map, Di, Cw]; omega) | (simp; omega))
  exact ⟨none, 0, [], zY, (hw1.fresh_out.sub Mo), (hcan0 ▸ Bt.nil)⟩
 refine Ua ?_
 refine Ak Ag (Ea (l := []) runUnderlying48 sizeOf112 zeroValue112) (k := fun r1 hr1 => ?_)
 refine Ck ?_
 refine Bb s (List.nil_append _) qL underlying48 Ey Bt.nil (List.Perm.refl _) (Cl.of_base h_s) ⟨by omega, by omega⟩ (n := 0) (m := s.length) (k := fun ax1 cx1 Bx1 hox1 => ?_)
 refine Z4 ?_
 refine Aa results92 z0 (fun w1 hw1 => ?_)
 have hcan0 : s = s := by (first | rfl | (exact Kl h_s z53))
 have hlen0 : s.length = s.length := by first | (rw [← hcan0]; done) | (rw [← hcan0]; first | rfl | (simp; done) | (simp only [List.length_append, List.length_take, List.length_drop, List.length_set, List.length_replicate, List.length_cons, List.length_nil, List.length_map, Di, Cw]; omega) | (simp; omega))
 exact ⟨ax1, cx1, Bx1, zY, (Ax (L := Bx1) (hw1.perm (List.Perm.refl _)) rfl.symm), (hcan0 ▸ hox1)⟩

theorem bY (w : World) {n_ : Int} {least : Int} {most : Int} : Ha Tryz.prog 208 [(vi n_), (vi least), (vi most)] w (Value.bool (bL n_ least most)) := by
 have hF := Is.refl (bL n_ least most)
 refine enter func208 ntmps208 (h := ?_)
 refine Xv ?_
 refine Hp ?_
 refine Af Qg (k := ?_)
 refine Ck ?_
 refine Ao 10 rfl (fun hq1 => ?_) (fun hq1 => ?_)
 rotate_left
 ·refine Ab 3 rfl ?_
  refine Hz ?_
  refine Aa results208 z0 (fun w1 hw1 => ?_)
  exact ⟨(rq (hF.neg hq1)), hw1.ext_out⟩
 refine Qa ?_
 refine Ar Lm (k := ?_)
 refine Ot ?_
 refine Aa results208 z0 (fun w1 hw1 => ?_)
 exact ⟨(rq (hF.pos hq1)), hw1.ext_out⟩

theorem W4 (w : World) {c : Eb} : Ha Tryz.prog 156 [(Value.agg [(vi c.id), (vt c.key), (vi c.frm), (vi c.to)].toArray)] w (Value.bool (eP c)) := by
 have hF := Is.refl (eP c)
 refine enter func156 ntmps156 (h := ?_)
 refine Z2 ?_
 refine Ak Ag (Lo (l := [_, _, _, _])) (k := fun r1 hr1 => ?_)
 refine Kt ?_
 refine Af (Al Nb) (k := ?_)
 refine Af (Al Rx) (k := ?_)
 refine It ?_
 refine Cy (Ac call208) (fun w1 hw1 => bY w1 (n_ := c.id) (least := 1) (most := 1000000000)) (k := ?_)
 refine Z4 ?_
 refine Aa results156 z0 (fun w1 hw1 => ?_)
 exact ⟨(rq hF), hw1.ext_out⟩

theorem G6 (w : World) {c : Eb} : Ha Tryz.prog 157 [(Value.agg [(vi c.id), (vt c.key), (vi c.frm), (vi c.to)].toArray)] w (Value.bool (Vp c)) := by
 have hF := Is.refl (Vp c)
 refine enter func157 ntmps157 (h := ?_)
 refine Z2 ?_
 refine Ak Ag (Lo (l := [_, _, _, _])) (k := fun r1 hr1 => ?_)
 refine Kt ?_
 refine Af (Al Nb) (k := ?_)
 refine Af (Al Vz) (k := ?_)
 refine Sj ?_
 refine Cy (Ac call130) (fun w1 hw1 => dU w1 (key := c.key)) (k := ?_)
 refine Z4 ?_
 refine Aa results157 z0 (fun w1 hw1 => ?_)
 exact ⟨(rq hF), hw1.ext_out⟩

theorem xX (w : World) {c : Eb} : Ha Tryz.prog 158 [(Value.agg [(vi c.id), (vt c.key), (vi c.frm), (vi c.to)].toArray)] w (Value.bool (Ql c)) := by
 have hF := Is.refl (Ql c)
 refine enter func158 ntmps158 (h := ?_)
 refine Z2 ?_
 refine Ak Ag (Lo (l := [_, _, _, _])) (k := fun r1 hr1 => ?_)
 refine Kt ?_
 refine Af (Al Nb) (k := ?_)
 refine Af (Al kE) (k := ?_)
 refine sJ ?_
 refine Ao 7 rfl (fun hq1 => ?_) (fun hq1 => ?_)
 rotate_left
 ·refine Ab 7 rfl ?_
  refine Xg ?_
  refine Hz ?_
  refine Aa results158 z0 (fun w1 hw1 => ?_)
  exact ⟨(rq (hF.neg hq1)), hw1.ext_out⟩
 refine Ar (Al Nb) (k := ?_)
 refine Ar (Al kE) (k := ?_)
 refine Qt ?_
 refine Ar (Al Nb) (k := ?_)
 refine Ar (Al kF) (k := ?_)
 refine rZ ?_
 refine Jh ?_
 refine Ao 16 rfl (fun hq2 => ?_) (fun hq2 => ?_)
 rotate_left
 ·refine Ab 4 rfl ?_
  refine Hz ?_
  refine Aa results158 z0 (fun w1 hw1 => ?_)
  exact ⟨(rq ((hF.pos hq1).neg hq2)), hw1.ext_out⟩
 refine Ar (Al Nb) (k := ?_)
 refine Ar (Al kF) (k := ?_)
 refine lD ?_
 refine Ot ?_
 refine Aa results158 z0 (fun w1 hw1 => ?_)
 exact ⟨(rq ((hF.pos hq1).pos hq2)), hw1.ext_out⟩

theorem G7 (w : World) {c : Eb} {now : Int} : Ha Tryz.prog 161 [(Value.agg [(vi c.id), (vt c.key), (vi c.frm), (vi c.to)].toArray), (vi now)] w (Value.bool (xG c now)) := by
 have hF := Is.refl (xG c now)
 refine enter func161 ntmps161 (h := ?_)
 refine Z2 ?_
 refine Ak Ag (Lo (l := [_, _, _, _])) (k := fun r1 hr1 => ?_)
 refine Kt ?_
 refine Af (Al Nb) (k := ?_)
 refine Af (Al kE) (k := ?_)
 refine lF ?_
 refine lK ?_
 refine Ao 10 rfl (fun hq1 => ?_) (fun hq1 => ?_)
 rotate_left
 ·refine Ab 5 rfl ?_
  refine Hz ?_
  refine Aa results161 z0 (fun w1 hw1 => ?_)
  exact ⟨(rq (hF.neg hq1)), hw1.ext_out⟩
 refine El ?_
 refine Ar (Al Nb) (k := ?_)
 refine Ar (Al kF) (k := ?_)
 refine rZ ?_
 refine Ot ?_
 refine Aa results161 z0 (fun w1 hw1 => ?_)
 exact ⟨(rq (hF.pos hq1)), hw1.ext_out⟩

theorem dX (w : World) {l_a : Option Addr} {l_c : Nat} {l : List Eb} (h_l : Sl w Ip 4 l_a l) (n_l : l.length ≤ 1000) : Ha Tryz.prog 101 [(vs l_a l.length l_c)] w (Value.bool (Ps l)) := by
 have hF := Is.refl (Ps l)
 refine enter func101 ntmps101 (h := ?_)
 refine Nk ?_
 refine Ak Ag Xy (k := fun r1 hr1 => ?_)
 refine D4 ?_
 refine sR ?_
 refine Rh ?_
 refine Ml (σ1 := Nat) (σ2 := Nat) (σ3 := Int) (σ4 := List Int) (σ5 := Array MapEntry) (σ6 := Nat) (fun n_4 x_1 last_2 x_3 x_3e x_3k => ((r1, Obj.map x_3e x_3k) :: [])) (fun n_4 x_1 last_2 x_3 x_3e x_3k => [(0, (vs l_a l.length l_c)), (2, (Value.bool false)), (3, (Value.map (some r1))), (4, (vi last_2)), (8, (vs l_a l.length l_c)), (9, (vi ((l.length : Nat) : Int))), (10, (vi ((x_1 : Nat) : Int)))]) (fun n_4 x_1 last_2 x_3 x_3e x_3k => l.length - x_1 < n_4 ∧ Is (Mc l (l.length + 1) 0 0 ([] : List Int)) (Mc l n_4 x_1 last_2 x_3) ∧ Po (fun x : Int => vi x) x_3e x_3 ∧ x_1 ≤ l.length) (fun n_4 x_1 last_2 x_3 x_3e x_3k => n_4) (l.length + 1) 0 0 ([] : List Int) (#[]) 0 ?_ se (List.Perm.refl _) ?_
 ·exact ⟨Nat.lt_succ_self _, Is.refl _, Po.nil, z7⟩
 ·rintro (_ | n_4) x_1 last_2 x_3 x_3e x_3k ⟨hm6, hF5, hx_3, hi7⟩
  ·omega
  refine Zy ?_
  refine Bi rfl (fun hq1 => ?_) (fun hq1 => ?_)
  ·refine Cg ?_
   refine Du ?_
   refine yI ?_
   refine Z2 ?_
   refine BG1 ?_
   refine Ak Ag z59 (k := fun r2 hr2 => ?_)
   refine wI ?_
   refine Jr ?_
   refine Z3 ?_
   refine Af (Al Rx) (k := ?_)
   refine It ?_
   refine Af (bF (xs := x_3) ((l.getD x_1 default).id) Cf runUnderlying251 runUnderlying3 zeroValue4 hx_3) (k := ?_)
   refine Ck ?_
   refine Ao 18 rfl (fun hq2 => ?_) (fun hq2 => ?_)
   ·refine Ab 4 rfl ?_
    refine cT ?_
    refine mI ?_
    refine Aa results101 z0 (fun w1 hw1 => ?_)
    exact ⟨(rq (hF.er3 ((hF5.pos hq1).pos hq2))), hw1.ext_out⟩
   refine Ar (Al Rx) (k := ?_)
   refine Qt ?_
   refine N2 ?_
   refine Pe ?_
   refine Bi rfl (fun hq3 => ?_) (fun hq3 => ?_)
   ·refine Cb ?_
    refine Lk ?_
    refine mI ?_
    refine Aa results101 z0 (fun w1 hw1 => ?_)
    exact ⟨(rq (hF.er3 (((hF5.pos hq1).neg hq2).pos hq3))), hw1.ext_out⟩
   refine Py ?_
   refine Fz _ _ (vp (qa q0) (nC nE)) mixed 7 [(true, 0), (true, 1), (true, 2), (true, 3), (true, 4), (false, 5), (true, 6)] z2 ?_
   refine Fo ?_
   refine Be (Al Rx) (k := ?_)
   refine Yr ?_
   refine Be (Al Rx) (k := ?_)
   refine Yr ?_
   refine AL6 (xs := x_3) ((l.getD x_1 default).id) Cf runUnderlying251 runUnderlying3 hx_3 z53 q0 (k := fun em6 km6 hms6 => ?_)
   refine Z76 ?_
   refine Hw (nC nE) ?_
   refine Dz ?_
   refine Ux ?_
   refine Cn _ (List.Sublist.cons_cons _ Mo) ?_
   exact Hv n_4 (x_1 + 1) ((l.getD x_1 default).id) (x_3 ++ [((l.getD x_1 default).id)]) em6 km6 ⟨by omega, (((hF5.pos hq1).neg hq2).neg hq3), hms6, z3⟩ (Nat.lt_succ_self _) se (List.Perm.refl _)
  refine Cu ?_
  refine Ia ?_
  refine Z3 ?_
  refine sR ?_
  refine lK ?_
  refine Ao 33 rfl (fun hq4 => ?_) (fun hq4 => ?_)
  rotate_left
  ·refine Ab 3 rfl ?_
   refine Hz ?_
   refine Aa results101 z0 (fun w1 hw1 => ?_)
   exact ⟨(rq ((hF.ok3 (hF5.neg hq1)).neg hq4)), hw1.ext_out⟩
  refine El ?_
  refine mL Ag (Ea (l := [_, _, _]) runUnderlying340 sizeOf253 zeroValue253) (k := fun r3 hr3 => ?_)
  refine bB (args := [_, _]) (Ac call155) func155 ntmps155 ?_
  refine Lj ?_
  refine sR ?_
  refine Rh ?_
  refine Jj (σ1 := Nat) (σ2 := Nat) (fun n_9 x_8 => ((r3, oc [(Value.func (.func 156) [].toArray [].toArray), (Value.func (.func 157) [].toArray [].toArray), (Value.func (.func 158) [].toArray [].toArray)] 253) :: ((r1, Obj.map x_3e x_3k) :: []))) (fun n_9 x_8 => [(1, (vs (some ⟨r3, 0, none⟩) 3 3)), (4, (Value.bool false)), (9, (vs l_a l.length l_c)), (10, (vi ((l.length : Nat) : Int))), (11, (vi ((x_8 : Nat) : Int)))]) (fun n_9 x_8 => l.length - x_8 < n_9 ∧ Is (Oy l x_1 last_2 x_3 (l.length + 1) 0) (Oy l x_1 last_2 x_3 n_9 x_8) ∧ x_8 ≤ l.length) (fun n_9 x_8 => n_9) (l.length + 1) 0 ?_ se (List.Perm.refl _) ?_
  ·exact ⟨Nat.lt_succ_self _, Is.refl _, z7⟩
  ·rintro (_ | n_9) x_8 ⟨hm11, hF10, hi12⟩
   ·omega
   refine Zy ?_
   refine Bi rfl (fun hq5 => ?_) (fun hq5 => ?_)
   rotate_left
   ·refine Cu ?_
    refine Ia ?_
    refine Yp ?_
    refine AI6 ?_
    refine Aa results101 z0 (fun w1 hw1 => ?_)
    exact ⟨(rq (((hF.ok3 (hF5.neg hq1)).pos hq4).ok1 (hF10.neg hq5))), hw1.ext_out⟩
   refine dD ?_
   refine Af (Cz (n := l.length) runUnderlying48 sizeOf112 x_8 eH (gD z4) Kc) (k := ?_)
   refine Af (Gt isAgg112 sizeOf112 x_8 eH (gD z4)) (k := ?_)
   refine Ak Ag z59 (k := fun r4 hr4 => ?_)
   refine wI ?_
   refine Lr ?_
   refine Af (Fg runUnderlying340) (k := ?_)
   refine lO ?_
   refine Af (Ei runUnderlying340 sizeOf253 0) (k := ?_)
   refine Af (Bm isAgg253) (k := ?_)
   refine Hq ?_
   refine AD3 ?_
   refine Cy (Ac call156) (fun w1 hw1 => W4 w1 (c := (l.getD x_8 default))) (k := ?_)
   refine Rf ?_
   refine Dl rfl (fun hq6 => ?_) (fun hq6 => ?_)
   ·refine Cb ?_
    refine Cp ?_
    refine fI ?_
    refine Ph ?_
    refine Rm ?_
    refine mI ?_
    refine AI6 ?_
    refine Aa results101 z0 (fun w1 hw1 => ?_)
    exact ⟨(rq (((hF.ok3 (hF5.neg hq1)).pos hq4).er1 ((hF10.pos hq5).t hq6))), hw1.ext_out⟩
   refine Vb ?_
   refine Af (Ei runUnderlying340 sizeOf253 1) (k := ?_)
   refine Af (Bm isAgg253) (k := ?_)
   refine Hq ?_
   refine AD3 ?_
   refine Cy (Ac call157) (fun w1 hw1 => G6 w1 (c := (l.getD x_8 default))) (k := ?_)
   refine Rf ?_
   refine Dl rfl (fun hq7 => ?_) (fun hq7 => ?_)
   ·refine Cb ?_
    refine Cp ?_
    refine fI ?_
    refine Ph ?_
    refine Rm ?_
    refine mI ?_
    refine AI6 ?_
    refine Aa results101 z0 (fun w1 hw1 => ?_)
    exact ⟨(rq (((hF.ok3 (hF5.neg hq1)).pos hq4).er1 (((hF10.pos hq5).f hq6).t hq7))), hw1.ext_out⟩
   refine Vb ?_
   refine Af (Ei runUnderlying340 sizeOf253 2) (k := ?_)
   refine Af (Bm isAgg253) (k := ?_)
   refine Hq ?_
   refine AD3 ?_
   refine Cy (Ac call158) (fun w1 hw1 => xX w1 (c := (l.getD x_8 default))) (k := ?_)
   refine Rf ?_
   refine Dl rfl (fun hq8 => ?_) (fun hq8 => ?_)
   ·refine Cb ?_
    refine Cp ?_
    refine fI ?_
    refine Ph ?_
    refine Rm ?_
    refine mI ?_
    refine AI6 ?_
    refine Aa results101 z0 (fun w1 hw1 => ?_)
    exact ⟨(rq (((hF.ok3 (hF5.neg hq1)).pos hq4).er1 ((((hF10.pos hq5).f hq6).f hq7).t hq8))), hw1.ext_out⟩
   refine Cg ?_
   refine fF ?_
   refine Z53 ?_
   refine Ux ?_
   refine Dt _ ((qa (qa q0)).trans (qa (qa q0))) ?_
   refine Cn _ (List.Sublist.cons_cons _ (List.Sublist.cons_cons _ Mo)) ?_
   exact Hu n_9 (x_8 + 1) ⟨by omega, ((((hF10.pos hq5).f hq6).f hq7).f hq8), z3⟩ (Nat.lt_succ_self _) se (List.Perm.refl _)

theorem uL (w : World) {l_a : Option Addr} {l_c : Nat} {l : List Eb} {now : Int} (h_l : Sl w Ip 4 l_a l) (n_l : l.length ≤ 1000) : Calls Tryz.prog 49 (List.toArray [(vs l_a l.length l_c), (vi now)]) w fun e w2 => ∃ a1 : Option Addr, ∃ c1 : Nat, ∃ B1 : Av, e = .returned (vs a1 ((Et l now).length) c1) ∧ Ej w w2 B1 ∧ Bt Ip 4 112 a1 c1 B1 (Et l now) ∧ (Et l now).length ≤ 1000 := by
 have hF := Is.refl (Et l now)
 refine enter func49 ntmps49 (h := ?_)
 refine Lj ?_
 refine Cy (Ac call101) (fun w1 hw1 => dX w1 (l := l) (h_l := (Cl.of_base h_l) w1 hw1) (n_l := Ng)) (k := ?_)
 refine Rf ?_
 refine Dl rfl (fun hq1 => ?_) (fun hq1 => ?_)
 ·refine Cb ?_
  refine Lk ?_
  refine Aa results49 z0 (fun w1 hw1 => ?_)
  exact ⟨none, 0, [], (rq (hF.t hq1)), (hw1.fresh_out.sub Mo), (ro (hF.t hq1)), (rl (hF.t hq1))⟩
 have hfhq1 := uA J8
 refine Py ?_
 refine Hp ?_
 refine Bq (args := [_, _]) (Ac call103) func103 ntmps103 ?_
 refine Z2 ?_
 refine Ak Ag z31 (k := fun r1 hr1 => ?_)
 refine Ak Ag z31 (k := fun r2 hr2 => ?_)
 refine aE ?_
 refine Bd results103 z0 ?_
 refine Bq (args := [_]) (Ac call102) func102 ntmps102 ?_
 refine Mq ?_
 refine bA (args := [_, _]) (Ac call159) func159 ntmps159 ?_
 refine Z2 ?_
 refine Ak Ag z31 (k := fun r3 hr3 => ?_)
 refine Iv ?_
 refine Nj ?_
 refine Fx Ag rfl call160 func160 ntmps160 (fun l4 rD4 rr4 hl4 => ?_)
 refine fR ?_
 refine Af (Bm isAgg48) (k := ?_)
 refine sR ?_
 refine Rh ?_
 refine Ml (σ1 := Nat) (σ2 := Nat) (σ3 := List Eb) (σ4 := Option Addr) (σ5 := Nat) (σ6 := Av) (fun n_3 x_1 x_2 x_2a x_2c x_2B => (x_2B ++ ((l4, Cr rr4 .ready none) :: ((rD4, Obj.deferred (some [])) :: ((r3, oc [(vs x_2a x_2.length x_2c)] 48) :: ((r2, oc [(vi now)] 3) :: ((r1, oc [(vs l_a l.length l_c)] 48) :: []))))))) (fun n_3 x_1 x_2 x_2a x_2c x_2B => [(0, (Value.func (.yield l4) [].toArray [].toArray)), (2, (Value.pointer (some ⟨r2, 0, none⟩))), (7, (vs l_a l.length l_c)), (8, (vi ((l.length : Nat) : Int))), (9, (vi ((x_1 : Nat) : Int)))]) (fun n_3 x_1 x_2 x_2a x_2c x_2B => l.length - x_1 < n_3 ∧ Is (Na l now (l.length + 1) 0 []) (Na l now n_3 x_1 x_2) ∧ Bt Ip 4 112 x_2a x_2c x_2B x_2 ∧ x_2.length ≤ x_1 ∧ x_1 ≤ l.length) (fun n_3 x_1 x_2 x_2a x_2c x_2B => n_3) (l.length + 1) 0 ([]) none 0 ([]) ?_ se (List.Perm.refl _) ?_
 ·exact ⟨Nat.lt_succ_self _, Is.refl _, Bt.nil, z7, z7⟩
 ·rintro (_ | n_3) x_1 x_2 x_2a x_2c x_2B ⟨hm5, hF4, hx_2, hi6, hi7⟩
  ·omega
  refine Zy ?_
  refine Bi rfl (fun hq2 => ?_) (fun hq2 => ?_)
  rotate_left
  ·refine Cu ?_
   refine Ko ?_
   refine Gh (.inr rfl) results160 (qc q0) ?_
   refine aH ?_
   refine Af (Bm isAgg48) (k := ?_)
   refine Z4 ?_
   refine Kx [rD4] (qa (qc q0)) results159 z0 ?_
   refine Z4 ?_
   refine Bd results102 z0 ?_
   refine Z4 ?_
   refine Aa results49 z0 (fun w1 hw1 => ?_)
   exact ⟨x_2a, x_2c, x_2B, (rq ((hF.f hq1).rn2 (hF4.neg hq2))), (Ax (L := x_2B) (hw1.perm (qb q0)) rfl.symm), (by rw [((hF.f hq1).rn2 (hF4.neg hq2)).eq]; exact hx_2), (rl ((hF.f hq1).rn2 (hF4.neg hq2)))⟩
  refine dD ?_
  refine BG1 ?_
  refine Ak Ag z59 (k := fun r5 hr5 => ?_)
  refine wI ?_
  refine Od ?_
  refine AD3 ?_
  refine fU ?_
  refine Hq ?_
  refine It ?_
  refine Cy (Ac call161) (fun w1 hw1 => G7 w1 (c := (l.getD x_1 default)) (now := now)) (k := ?_)
  refine Ck ?_
  refine Bo 19 rfl (fun hq3 => ?_) (fun hq3 => ?_)
  rotate_left
  ·refine Ab 4 rfl ?_
   refine Pe ?_
   refine Sh ?_
   refine Dt _ ((((((qa (qc (qa (qa (qa (qa q0)))))).trans (qa (qa (qc (qa (qa (qa q0))))))).trans (qa (qa (qa (qc (qa (qa q0))))))).trans (qa (qa (qa (qa (qc (qa q0))))))).trans (qa (qa (qa (qa (qa (qc q0))))))).trans (qb (qb (qb (qb (qb (qb q0))))))) ?_
   refine BH8 ?_
   exact Hv n_3 (x_1 + 1) x_2 x_2a x_2c x_2B ⟨by omega, ((hF4.pos hq2).f hq3), hx_2, z3, z3⟩ (Nat.lt_succ_self _) se (List.Perm.refl _)
  refine El ?_
  refine Ar (Ch isAgg112 sizeOf112) (k := ?_)
  refine Ev (vs := [(Value.agg [(vi ((l.getD x_1 default).id)), (vt ((l.getD x_1 default).key)), (vi ((l.getD x_1 default).frm)), (vi ((l.getD x_1 default).to))].toArray)]) hl4 (qa (qc q0)) Dw ?_
  refine Cp ?_
  refine Ak Ag z59 (k := fun r6 hr6 => ?_)
  refine wI ?_
  refine Dz ?_
  refine AU1 ?_
  refine Af (Bm isAgg48) (k := ?_)
  refine N8 ?_
  refine Ak Ag z82 (k := fun r7 hr7 => ?_)
  refine Bb (x_2 ++ ([(l.getD x_1 default)] : List Eb)) rfl qL underlying48 Ey hx_2 (qb (qb (qb (qb q0)))) (Cl.lit (xs := ([(l.getD x_1 default)] : List Eb)) Ey) ⟨by omega, by omega⟩ (n := x_2.length) (m := 1) (k := fun ax1 cx1 Bx1 hox1 => ?_)
  have hal1 : (x_2 ++ ([(l.getD x_1 default)] : List Eb)).length = x_2.length + 1 := by first | rfl | exact List.length_append | simp
  refine Ep (Bn (l' := [_]) sizeOf48) (k := ?_)
  refine Dz ?_
  refine L1 ?_
  refine Sh ?_
  refine Dt _ ((((((qa (qc (qa (qa (qa (qa (qa (qa q0)))))))).trans (qa (qa (qc (qa (qa (qa (qa (qa q0))))))))).trans (qa (qa (qa (qc (qa (qa (qa (qa q0))))))))).trans (qa (qa (qa (qa (qc (qa (qa (qa q0))))))))).trans (qa (qa (qa (qa q0))))).trans (qb (qb (qb (qb (qb q0)))))) ?_
  refine BH8 ?_
  exact Hv n_3 (x_1 + 1) (x_2 ++ ([(l.getD x_1 default)] : List Eb)) ax1 cx1 Bx1 ⟨by omega, ((hF4.pos hq2).t hq3), hox1, z3, z3⟩ (Nat.lt_succ_self _) se (List.Perm.refl _)

theorem nL (w : World) {l_a : Option Addr} {l_c : Nat} {ea0 : Addr} {ea1 : Addr} {ea2 : Addr} {ea3 : Addr} {ea4 : Addr} {ea5 : Addr} {ea6 : Addr} {ea7 : Addr} {ea8 : Addr} {ea9 : Addr} {ea10 : Addr} {ea11 : Addr} {ea12 : Addr} {ea13 : Addr} {ea14 : Addr} {ea15 : Addr} {l : List Eb} {now : Int} {challenge : An} {name : An} {proof : An} (h_l : Sl w Ip 4 l_a l) (n_l : l.length ≤ 1000) (n_name : name.length ≤ 10000) (n_proof : proof.length ≤ 1000000) (hG : Gl w) (hE : Er w ea0 ea1 ea2 ea3 ea4 ea5 ea6 ea7 ea8 ea9 ea10 ea11 ea12 ea13 ea14 ea15) : Ha Tryz.prog 17 [(vs l_a l.length l_c), (vi now), (vt challenge), (vt name), (vt proof)] w (Value.tuple [(vi ((Nt l now challenge name proof).1)), (Value.bool ((Nt l now challenge name proof).2))].toArray) := by
 have hF := Is.refl (Nt l now challenge name proof)
 refine enter func17 ntmps17 (h := ?_)
 refine Z2 ?_
 refine Lq ?_
 refine Z2 ?_
 refine Af (Cx (cs := [_, _, _, _]) zeroValue112 W3) (k := ?_)
 refine Ak Ag z59 (k := fun r1 hr1 => ?_)
 refine wI ?_
 refine Jr ?_
 refine Hp ?_
 refine Kq (Ac call49) (fun w1 hw1 => uL w1 (l := l) (now := now) (h_l := (Cl.of_base h_l) w1 hw1) (n_l := Ng)) (k := ?_)
 rintro w1_1 e1_1 w2_1 hw1_1 ⟨a1_1, c1_1, B1_1, he_1, hf_1, ho1_1, hl1_1⟩
 refine ⟨_, _, he_1, hw1_1.fresh hf_1, ?_⟩
 refine sR ?_
 refine Rh ?_
 refine Jj (σ1 := Nat) (σ2 := Nat) (fun n_2 x_1 => (B1_1 ++ ((r1, oc [(vi 0), (vt ([] : An)), (vi 0), (vi 0)] 112) :: []))) (fun n_2 x_1 => [(2, (vt challenge)), (3, (vt name)), (4, (vt proof)), (10, (vi 0)), (11, (Value.bool false)), (12, (Value.pointer (some ⟨r1, 0, none⟩))), (20, (vs a1_1 ((Et l now).length) c1_1)), (21, (vi ((((Et l now).length) : Nat) : Int))), (22, (vi ((x_1 : Nat) : Int)))]) (fun n_2 x_1 => ((Et l now).length) - x_1 < n_2 ∧ Is (Oz l now challenge name proof (((Et l now).length) + 1) 0) (Oz l now challenge name proof n_2 x_1)) (fun n_2 x_1 => n_2) (((Et l now).length) + 1) 0 ?_ se (List.Perm.refl _) ?_
 ·exact ⟨Nat.lt_succ_self _, Is.refl _⟩
 ·rintro (_ | n_2) x_1 ⟨hm4, hF3⟩
  ·omega
  refine Zy ?_
  refine Bi rfl (fun hq1 => ?_) (fun hq1 => ?_)
  rotate_left
  ·refine Cu ?_
   refine Ia ?_
   refine Z2 ?_
   refine aC ?_
   refine Aa results17 (Bw.tmp rfl z0) (fun w1 hw1 => ?_)
   exact ⟨(rq (hF.ok1 (hF3.neg hq1))), hw1.ext_out⟩
  refine dD ?_
  refine Af (Cz (n := (Et l now).length) runUnderlying48 sizeOf112 x_1 (ho1_1.slj Ey) (gD z4) Kc) (k := ?_)
  refine Af (Gt isAgg112 sizeOf112 x_1 (ho1_1.slj Ey) (gD z4)) (k := ?_)
  refine Ak Ag z59 (k := fun r2 hr2 => ?_)
  refine wI ?_
  refine Od ?_
  refine Af (Al Vz) (k := ?_)
  refine Sj ?_
  refine Sf ?_
  refine Cy (Ac call33) (fun w1 hw1 => zJ w1 (key := (((Et l now).getD x_1 default).key)) (challenge := challenge) (name := name) (n_name := Ng) (hG := hG.ext hw1.ext_out) (hE := hE.ext hw1.ext_out)) (k := ?_)
  have han_35915 := tY (((Et l now).getD x_1 default).key) challenge name
  refine Kf ?_
  refine Lq ?_
  refine Z2 ?_
  refine N8 ?_
  refine N8 ?_
  refine Af (bD (BA9 _ _ _ _ _ _ _ _ _ _)) (k := ?_)
  refine Ck ?_
  refine Ao 37 rfl (fun hq2 => ?_) (fun hq2 => ?_)
  rotate_left
  ·refine Ab 2 rfl ?_
   refine oJ ?_
   refine Pe ?_
   refine Sh ?_
   refine AV2 ?_
   exact Hu n_2 (x_1 + 1) ⟨by omega, ((hF3.pos hq1).neg hq2)⟩ (Nat.lt_succ_self _) se (List.Perm.refl _)
  refine cP ?_
  refine Jh ?_
  refine Ao 41 rfl (fun hq3 => ?_) (fun hq3 => ?_)
  rotate_left
  ·refine Ab 3 rfl ?_
   refine Pe ?_
   refine Sh ?_
   refine AV2 ?_
   exact Hu n_2 (x_1 + 1) ⟨by omega, (((hF3.pos hq1).pos hq2).neg hq3)⟩ (Nat.lt_succ_self _) se (List.Perm.refl _)
  refine Qa ?_
  refine Kj (Ac call50) (fun w1 hw1 => V2 w1 (a := ((Kg (((Et l now).getD x_1 default).key) challenge name).1)) (b := proof) (n_a := Ng) (n_b := Ng)) (k := ?_)
  refine rG ?_
  refine Dl rfl (fun hq4 => ?_) (fun hq4 => ?_)
  rotate_left
  ·refine Cg ?_
   refine Ux ?_
   refine AV2 ?_
   exact Hu n_2 (x_1 + 1) ⟨by omega, ((((hF3.pos hq1).pos hq2).pos hq3).f hq4)⟩ (Nat.lt_succ_self _) se (List.Perm.refl _)
  refine Z2 ?_
  refine Af (Al Rx) (k := ?_)
  refine It ?_
  refine Mr ?_
  refine Ri ?_
  refine Aa results17 (Bw.tmp rfl z0) (fun w1 hw1 => ?_)
  exact ⟨(rq (hF.er1 ((((hF3.pos hq1).pos hq2).pos hq3).t hq4))), hw1.ext_out⟩

end Go.Proofs.YtdnjanhdnibkfaaGreatDoor.Jd

namespace Go.Proofs.YtdnjanhdnibkfaaGreatDoor.Jd
open Go.Proofs.Tryz
open Go.Proofs
open Go.RowKit (Below)
set_option maxRecDepth 100000
set_option maxHeartbeats 8000000
set_option linter.unusedVariables false
set_option linter.unusedSimpArgs false
def DT (w : World) (x : Ah) (t : TA) : Prop := Sl w Lb 5 t.ra x.rules ∧ Sl w Ip 4 t.ca x.creds ∧ x.rules.length ≤ t.rc ∧ x.creds.length ≤ t.cc
theorem Je : pY DT := fun w w' x t hc h => ⟨h.1.cmono hc, h.2.1.cmono hc, h.2.2⟩
def Ef (x : Ah × TA) : List Value := [vi x.1.handle.slot, vi x.1.handle.gen, Value.string (bs x.1.name), vi x.1.state, vi x.1.version, vs x.2.ra x.1.rules.length x.2.rc, vs x.2.ca x.1.creds.length x.2.cc, vi x.1.deadline]
theorem Ca : Ed Ef 8 := ⟨by omega, fun _ => rfl, fun _ => rfl⟩
theorem qM : Bl Tryz.prog 34 0 0 := fun r k w => by simp [Instr.fieldAt, Instr.sureAddr, fieldPlace, Bc]
theorem Qo : Bl Tryz.prog 34 1 3 := fun r k w => by simp [Instr.fieldAt, Instr.sureAddr, fieldPlace, Bc]
theorem Oh : Bl Tryz.prog 34 2 4 := fun r k w => by simp [Instr.fieldAt, Instr.sureAddr, fieldPlace, Bc]
theorem Lc : Bl Tryz.prog 50 0 0 := fun r k w => by simp [Instr.fieldAt, Instr.sureAddr, fieldPlace, Bc]
theorem hY : Bl Tryz.prog 50 1 2 := fun r k w => by simp [Instr.fieldAt, Instr.sureAddr, fieldPlace, Bc]
theorem Qp : Bl Tryz.prog 50 2 3 := fun r k w => by simp [Instr.fieldAt, Instr.sureAddr, fieldPlace, Bc]
theorem qN : Bl Tryz.prog 50 3 4 := fun r k w => by simp [Instr.fieldAt, Instr.sureAddr, fieldPlace, Bc]
theorem bZ : Bl Tryz.prog 50 4 5 := fun r k w => by simp [Instr.fieldAt, Instr.sureAddr, fieldPlace, Bc]
theorem Wt : Bl Tryz.prog 50 5 6 := fun r k w => by simp [Instr.fieldAt, Instr.sureAddr, fieldPlace, Bc]
theorem qO : Bl Tryz.prog 50 6 7 := fun r k w => by simp [Instr.fieldAt, Instr.sureAddr, fieldPlace, Bc]
theorem Hl : Bl Tryz.prog 104 0 0 := fun r k w => by simp [Instr.fieldAt, Instr.sureAddr, fieldPlace, Bc]
theorem W5 : Bl Tryz.prog 104 1 8 := fun r k w => by simp [Instr.fieldAt, Instr.sureAddr, fieldPlace, Bc]
theorem W6 : Fh Tryz.prog 104 [(0, 8), (8, 1)] := ⟨_, fun w => runUnderlying104 w, fun w => by simp⟩
theorem kG (w : World) {s : An} : Ha Tryz.prog 177 [(vt s)] w (Value.bool (Tb s)) := by
 have hF := Is.refl (Tb s)
 refine enter func177 ntmps177 (h := ?_)
 refine Mq ?_
 refine Af tG (k := ?_)
 refine Ck ?_
 refine Ao 5 rfl (fun hq1 => ?_) (fun hq1 => ?_)
 rotate_left
 ·refine Ab 3 rfl ?_
  refine Uv ?_
  refine Hz ?_
  refine Aa results177 z0 (fun w1 hw1 => ?_)
  exact ⟨(rq (hF.neg hq1)), hw1.ext_out⟩
 refine El ?_
 refine Ar (pQ runUnderlying9) (k := ?_)
 refine Ar Lm (k := ?_)
 refine Jh ?_
 refine Ao 10 rfl (fun hq2 => ?_) (fun hq2 => ?_)
 rotate_left
 ·refine Ab 2 rfl ?_
  refine Hz ?_
  refine Aa results177 z0 (fun w1 hw1 => ?_)
  exact ⟨(rq ((hF.pos hq1).neg hq2)), hw1.ext_out⟩
 refine El ?_
 refine Kj (Ac call225) (fun w1 hw1 => G1 w1 (s := s)) (k := ?_)
 refine Ot ?_
 refine Aa results177 z0 (fun w1 hw1 => ?_)
 exact ⟨(rq ((hF.pos hq1).pos hq2)), hw1.ext_out⟩

theorem lV (w : World) {t_1_rules_a : Option Addr} {t_1_rules_c : Nat} {t_1_creds_a : Option Addr} {t_1_creds_c : Nat} {t : (Ah × Int)} (h_t_1_rules : Sl w Lb 5 t_1_rules_a t.1.rules) (h_t_1_creds : Sl w Ip 4 t_1_creds_a t.1.creds) : Ha Tryz.prog 120 [(Value.agg [(vi t.1.handle.slot), (vi t.1.handle.gen), (vt t.1.name), (vi t.1.state), (vi t.1.version), (vs t_1_rules_a t.1.rules.length t_1_rules_c), (vs t_1_creds_a t.1.creds.length t_1_creds_c), (vi t.1.deadline), (vi t.2)].toArray)] w (Value.bool (Kh t)) := by
 have hF := Is.refl (Kh t)
 refine enter func120 ntmps120 (h := ?_)
 refine Z2 ?_
 refine Ak Ag z87 (k := fun r1 hr1 => ?_)
 refine Kt ?_
 refine Af (Al Hl) (k := ?_)
 refine Af (Al qN) (k := ?_)
 refine sJ ?_
 refine Ao 7 rfl (fun hq1 => ?_) (fun hq1 => ?_)
 rotate_left
 ·refine Ab 6 rfl ?_
  refine Hz ?_
  refine Aa results120 z0 (fun w1 hw1 => ?_)
  exact ⟨(rq (hF.neg hq1)), hw1.ext_out⟩
 refine sS ?_
 refine Ar (Al qN) (k := ?_)
 refine Qt ?_
 refine Ar (Al W5) (k := ?_)
 refine lD ?_
 refine Ot ?_
 refine Aa results120 z0 (fun w1 hw1 => ?_)
 exact ⟨(rq (hF.pos hq1)), hw1.ext_out⟩

theorem lW (w : World) {t_1_rules_a : Option Addr} {t_1_rules_c : Nat} {t_1_creds_a : Option Addr} {t_1_creds_c : Nat} {t : (Ah × Int)} (h_t_1_rules : Sl w Lb 5 t_1_rules_a t.1.rules) (h_t_1_creds : Sl w Ip 4 t_1_creds_a t.1.creds) : Ha Tryz.prog 121 [(Value.agg [(vi t.1.handle.slot), (vi t.1.handle.gen), (vt t.1.name), (vi t.1.state), (vi t.1.version), (vs t_1_rules_a t.1.rules.length t_1_rules_c), (vs t_1_creds_a t.1.creds.length t_1_creds_c), (vi t.1.deadline), (vi t.2)].toArray)] w (Value.bool (Ki t)) := by
 have hF := Is.refl (Ki t)
 refine enter func121 ntmps121 (h := ?_)
 refine Z2 ?_
 refine Ak Ag z87 (k := fun r1 hr1 => ?_)
 refine Kt ?_
 refine Af (Al Hl) (k := ?_)
 refine Af (Al Qp) (k := ?_)
 refine sJ ?_
 refine Ao 7 rfl (fun hq1 => ?_) (fun hq1 => ?_)
 rotate_left
 ·refine Ab 4 rfl ?_
  refine Xg ?_
  refine Xg ?_
  refine Z5 ?_
  refine Ab 10 rfl ?_
  refine Hz ?_
  refine Aa results121 z0 (fun w1 hw1 => ?_)
  exact ⟨(rq (hF.neg hq1)), hw1.ext_out⟩
 refine sS ?_
 refine Ar (Al Qp) (k := ?_)
 refine lD ?_
 refine Jh ?_
 refine Ao 13 rfl (fun hq2 => ?_) (fun hq2 => ?_)
 rotate_left
 ·refine Ab 4 rfl ?_
  refine Xg ?_
  refine Z5 ?_
  refine Ab 10 rfl ?_
  refine Hz ?_
  refine Aa results121 z0 (fun w1 hw1 => ?_)
  exact ⟨(rq ((hF.pos hq1).neg hq2)), hw1.ext_out⟩
 refine sS ?_
 refine Ar (Al qO) (k := ?_)
 refine Qt ?_
 refine Ar Qg (k := ?_)
 refine Jh ?_
 refine Ao 19 rfl (fun hq3 => ?_) (fun hq3 => ?_)
 rotate_left
 ·refine Ab 4 rfl ?_
  refine Z5 ?_
  refine Ab 10 rfl ?_
  refine Hz ?_
  refine Aa results121 z0 (fun w1 hw1 => ?_)
  exact ⟨(rq (((hF.pos hq1).pos hq2).neg hq3)), hw1.ext_out⟩
 refine sS ?_
 refine Ar (Al qO) (k := ?_)
 refine lD ?_
 refine Jh ?_
 refine Ao 25 rfl (fun hq4 => ?_) (fun hq4 => ?_)
 rotate_left
 ·refine Ab 10 rfl ?_
  refine Hz ?_
  refine Aa results121 z0 (fun w1 hw1 => ?_)
  exact ⟨(rq ((((hF.pos hq1).pos hq2).pos hq3).neg hq4)), hw1.ext_out⟩
 refine sS ?_
 refine Ar (Al qO) (k := ?_)
 refine Z57 ?_
 refine El ?_
 refine Ao 30 rfl (fun hq5 => ?_) (fun hq5 => ?_)
 ·refine Ab 4 rfl ?_
  refine wC ?_
  refine Aa results121 z0 (fun w1 hw1 => ?_)
  exact ⟨(rq (((((hF.pos hq1).pos hq2).pos hq3).pos hq4).pos hq5)), hw1.ext_out⟩
 refine sS ?_
 refine Ar (Al Qp) (k := ?_)
 refine Z57 ?_
 refine Ys ?_
 refine Ot ?_
 refine Aa results121 z0 (fun w1 hw1 => ?_)
 exact ⟨(rq (((((hF.pos hq1).pos hq2).pos hq3).pos hq4).neg hq5)), hw1.ext_out⟩

theorem uM (w : World) {t_1_rules_a : Option Addr} {t_1_rules_c : Nat} {t_1_creds_a : Option Addr} {t_1_creds_c : Nat} {t : (Ah × Int)} (h_t_1_rules : Sl w Lb 5 t_1_rules_a t.1.rules) (n_t_1_rules : t.1.rules.length ≤ 1000) (h_t_1_creds : Sl w Ip 4 t_1_creds_a t.1.creds) (n_t_1_creds : t.1.creds.length ≤ 1000) : Ha Tryz.prog 122 [(Value.agg [(vi t.1.handle.slot), (vi t.1.handle.gen), (vt t.1.name), (vi t.1.state), (vi t.1.version), (vs t_1_rules_a t.1.rules.length t_1_rules_c), (vs t_1_creds_a t.1.creds.length t_1_creds_c), (vi t.1.deadline), (vi t.2)].toArray)] w (Value.bool (Pt t)) := by
 have hF := Is.refl (Pt t)
 refine enter func122 ntmps122 (h := ?_)
 refine Z2 ?_
 refine Ak Ag z87 (k := fun r1 hr1 => ?_)
 refine Kt ?_
 refine Af (Al Hl) (k := ?_)
 refine AH0 ?_
 refine Cy (Ac call177) (fun w1 hw1 => kG w1 (s := t.1.name)) (k := ?_)
 refine Ck ?_
 refine Bo 7 rfl (fun hq1 => ?_) (fun hq1 => ?_)
 rotate_left
 ·refine Ab 4 rfl ?_
  refine Xg ?_
  refine Hz ?_
  refine Aa results122 z0 (fun w1 hw1 => ?_)
  exact ⟨(rq (hF.f hq1)), hw1.ext_out⟩
 refine sS ?_
 refine Ar (Al bZ) (k := ?_)
 refine Ar (Bm isAgg47) (k := ?_)
 refine Kj (Ac call56) (fun w1 hw1 => eQ w1 (l := t.1.rules) (h_l := (Cl.of_base h_t_1_rules) w1 hw1) (n_l := Ng)) (k := ?_)
 refine Jh ?_
 refine Bo 13 rfl (fun hq2 => ?_) (fun hq2 => ?_)
 rotate_left
 ·refine Ab 4 rfl ?_
  refine Hz ?_
  refine Aa results122 z0 (fun w1 hw1 => ?_)
  exact ⟨(rq ((hF.t hq1).f hq2)), hw1.ext_out⟩
 refine sS ?_
 refine Ar (Al Wt) (k := ?_)
 refine Ar (Bm isAgg48) (k := ?_)
 refine Kj (Ac call101) (fun w1 hw1 => dX w1 (l := t.1.creds) (h_l := (Cl.of_base h_t_1_creds) w1 hw1) (n_l := Ng)) (k := ?_)
 refine Ot ?_
 refine Aa results122 z0 (fun w1 hw1 => ?_)
 exact ⟨(rq ((hF.t hq1).t hq2)), hw1.ext_out⟩

theorem nM (w : World) {r_Sg_a : Option Addr} {r_Sg_c : Nat} {r_Su_a : Option Addr} {r_Su_c : Nat} {r_Sf_a : Option Addr} {r_Sf_c : Nat} {r_l_a : Option Addr} {r_l_c : Nat} {r_l_t : List TA} {r : Bk} {name : An} (h_r_Sg : Sl w eI 1 r_Sg_a r.slots.gens) (n_r_Sg : r.slots.gens.length ≤ 1000) (h_r_Su : Sl w eB 1 r_Su_a r.slots.used) (n_r_Su : r.slots.used.length ≤ 1000) (h_r_Sf : Sl w eI 1 r_Sf_a r.slots.free) (n_r_Sf : r.slots.free.length ≤ 1000) (h_r_l : Yz w Ef 8 DT r_l_a r.l r_l_t) (n_r_l : r.l.length ≤ 1000) (k_r_l : r.l.length ≤ r_l_c) : Ha Tryz.prog 41 [(Value.agg [(vs r_Sg_a r.slots.gens.length r_Sg_c), (vs r_Su_a r.slots.used.length r_Su_c), (vs r_Sf_a r.slots.free.length r_Sf_c), (vs r_l_a r.l.length r_l_c), (vi r.seq)].toArray), (vt name)] w (Value.tuple [(vi ((Jc r name).1)), (Value.bool ((Jc r name).2))].toArray) := by
 have hF := Is.refl (Jc r name)
 refine Sq func41 ntmps41 (h := ?_)
 refine Z2 ?_
 refine Ak Ag mH (k := fun r1 hr1 => ?_)
 refine Ak Ag z31 (k := fun r2 hr2 => ?_)
 refine Ak Ag z64 (k := fun r3 hr3 => ?_)
 refine Ak Ag z65 (k := fun r4 hr4 => ?_)
 refine Jr ?_
 refine Se ?_
 refine Bq (args := [_]) (Ac call90) func90 ntmps90 ?_
 refine Z2 ?_
 refine Ak Ag mH (k := fun r5 hr5 => ?_)
 refine aE ?_
 refine Bd results90 z0 ?_
 refine Nj ?_
 refine Fx Ag rfl call147 func147 ntmps147 (fun l6 rD6 rr6 hl6 => ?_)
 refine fR ?_
 refine rY ?_
 refine wJ ?_
 refine Rh ?_
 refine Jj (σ1 := Nat) (σ2 := Nat) (fun n_2 x_1 => ((l6, Cr rr6 .ready none) :: ((rD6, Obj.deferred (some [])) :: ((r5, oc [(vs r_Sg_a r.slots.gens.length r_Sg_c), (vs r_Su_a r.slots.used.length r_Su_c), (vs r_Sf_a r.slots.free.length r_Sf_c), (vs r_l_a r.l.length r_l_c), (vi r.seq)] 34) :: ((r4, oc [(Value.bool false)] 4) :: ((r3, oc [(vi 0)] 3) :: ((r2, oc [(vt name)] 9) :: ((r1, oc [(vs r_Sg_a r.slots.gens.length r_Sg_c), (vs r_Su_a r.slots.used.length r_Su_c), (vs r_Sf_a r.slots.free.length r_Sf_c), (vs r_l_a r.l.length r_l_c), (vi r.seq)] 34) :: [])))))))) (fun n_2 x_1 => [(0, (Value.func (.yield l6) [].toArray [].toArray)), (1, (Value.pointer (some ⟨r5, 0, none⟩))), (6, (vs r_l_a r.l.length r_l_c)), (7, (vi ((r.l.length : Nat) : Int))), (8, (vi ((x_1 : Nat) : Int)))]) (fun n_2 x_1 => r.l.length - x_1 < n_2 ∧ Is (Jm r name (r.l.length + 1) 0) (Jm r name n_2 x_1) ∧ x_1 ≤ r.l.length) (fun n_2 x_1 => n_2) (r.l.length + 1) 0 ?_ se (List.Perm.refl _) ?_
 ·exact ⟨Nat.lt_succ_self _, Is.refl _, z7⟩
 ·rintro (_ | n_2) x_1 ⟨hm4, hF3, hi5⟩
  ·omega
  refine Zy ?_
  refine Bi rfl (fun hq1 => ?_) (fun hq1 => ?_)
  rotate_left
  ·refine Cu ?_
   refine Ko ?_
   refine Gh (.inr rfl) results147 q0 ?_
   refine aH ?_
   refine N9 ?_
   refine rL ?_
   refine Dq [rD6] (qa q0) results41 (Bw.word isAgg3 rfl me rfl rF) (fun w1 hw1 => ?_)
   exact ⟨(rq (hF.ok1 (hF3.neg hq1))), hw1.ext_out⟩
  refine Py ?_
  refine AU7 ?_
  have hcp2 := (h_r_l.2.2 x_1 z4).2.2.1
  have hcp3 := (h_r_l.2.2 x_1 z4).2.2.2
  refine AX0 ?_
  refine Ak Ag eG (k := fun r7 hr7 => ?_)
  refine AW1 ?_
  refine Z0 ?_
  refine Hp ?_
  refine O0 ?_
  refine AW2 ?_
  refine Ly (vs := [(vi ((x_1 : Nat) : Int)), (Value.agg [(vi ((r.l.getD x_1 default).handle.slot)), (vi ((r.l.getD x_1 default).handle.gen)), (vt ((r.l.getD x_1 default).name)), (vi ((r.l.getD x_1 default).state)), (vi ((r.l.getD x_1 default).version)), (vs ((r_l_t.getD x_1 default).ra) ((r.l.getD x_1 default).rules.length) ((r_l_t.getD x_1 default).rc)), (vs ((r_l_t.getD x_1 default).ca) ((r.l.getD x_1 default).creds.length) ((r_l_t.getD x_1 default).cc)), (vi ((r.l.getD x_1 default).deadline)), (vi r.seq)].toArray)]) hl6 (qa q0) Dw ?_
  refine Xv ?_
  refine Cp ?_
  refine Ak Ag (Cj (l := [_, _, _, _, _, _, _, _, _]) zeroValue104) (k := fun r8 hr8 => ?_)
  refine AW5 ?_
  refine K2 ?_
  refine Z2 ?_
  refine Af (Al Hl) (k := ?_)
  refine AH0 ?_
  refine Sj ?_
  refine Af tF (k := ?_)
  refine Z0 ?_
  refine Bi rfl (fun hq4 => ?_) (fun hq4 => ?_)
  rotate_left
  ·refine Cg ?_
   refine Fr ?_
   refine Fu q0 ?_
   refine Rf ?_
   refine Sh ?_
   refine Dt _ (((((((qa (qa (qa (qa (qa (qa (qa (qa q0)))))))).trans (qa (qa (qa (qa (qa (qa (qa (qa q0))))))))).trans (qa (qa (qa (qa (qa (qa (qa (qa q0))))))))).trans (qa (qa (qa (qa (qa (qa (qa (qa q0))))))))).trans (qa (qa (qa (qa (qa (qa (qa (qa q0))))))))).trans (qa (qa (qa (qa (qa (qa (qa (qa q0))))))))).trans (qa (qa (qa (qa (qa (qa q0))))))) ?_
   refine Cn _ (List.Sublist.cons_cons _ z14) ?_
   exact Hu n_2 (x_1 + 1) ⟨by omega, ((hF3.pos hq1).neg hq4), z3⟩ (Nat.lt_succ_self _) se (List.Perm.refl _)
  refine Z3 ?_
  refine N9 ?_
  refine rL ?_
  refine Rm ?_
  refine Gc q0 ?_
  refine Mp ?_
  refine pA ?_
  refine Ko ?_
  refine C7 ?_
  refine Z7 ?_
  refine Dq [rD6] (qa (qa (qa q0))) results41 (Bw.word isAgg3 rfl me rfl rF) (fun w1 hw1 => ?_)
  exact ⟨(rq (hF.er1 ((hF3.pos hq1).pos hq4))), hw1.ext_out⟩

theorem G8 (w : World) {r_Sg_a : Option Addr} {r_Sg_c : Nat} {r_Su_a : Option Addr} {r_Su_c : Nat} {r_Sf_a : Option Addr} {r_Sf_c : Nat} {r_l_a : Option Addr} {r_l_c : Nat} {r_l_t : List TA} {r : Bk} (h_r_Sg : Sl w eI 1 r_Sg_a r.slots.gens) (n_r_Sg : r.slots.gens.length ≤ 1000) (h_r_Su : Sl w eB 1 r_Su_a r.slots.used) (n_r_Su : r.slots.used.length ≤ 1000) (h_r_Sf : Sl w eI 1 r_Sf_a r.slots.free) (n_r_Sf : r.slots.free.length ≤ 1000) (h_r_l : Yz w Ef 8 DT r_l_a r.l r_l_t) (n_r_l : r.l.length ≤ 1000) (k_r_l : r.l.length ≤ r_l_c) (hsm : Fs r.l) : Ha Tryz.prog 73 [(Value.agg [(vs r_Sg_a r.slots.gens.length r_Sg_c), (vs r_Su_a r.slots.used.length r_Su_c), (vs r_Sf_a r.slots.free.length r_Sf_c), (vs r_l_a r.l.length r_l_c), (vi r.seq)].toArray)] w (Value.bool (Zb r)) := by
 have hF := Is.refl (Zb r)
 refine Sq func73 ntmps73 (h := ?_)
 refine Z2 ?_
 refine Ak Ag mH (k := fun r1 hr1 => ?_)
 refine Ak Ag z65 (k := fun r2 hr2 => ?_)
 refine Od ?_
 refine AF3 ?_
 refine Kq (Ac call117) (fun w1 hw1 => AM6 w1 (s := r.slots) (h_s_gens := (Cl.of_base h_r_Sg) w1 hw1) (n_s_gens := Ng) (h_s_used := (Cl.of_base h_r_Su) w1 hw1) (n_s_used := Ng) (h_s_free := (Cl.of_base h_r_Sf) w1 hw1) (n_s_free := Ng)) (k := ?_)
 rintro w1_1 e1_1 w2_1 hw1_1 ⟨a1_1, c1_1, B_1, he_1, hf_1, hs1_1, hl1_1⟩
 refine ⟨_, _, he_1, hw1_1.fresh hf_1, ?_⟩
 refine Ak Ag (Cj (l := [_]) zeroValue212) (k := fun r3 hr3 => ?_)
 refine Ep (Bn (l' := [_]) sizeOf212) (k := ?_)
 refine Jr ?_
 refine Z2 ?_
 refine AF3 ?_
 refine Cy (Ac call118) (fun w1 hw1 => nF w1 (s := r.slots) (h_s_gens := (Cl.of_base h_r_Sg) w1 hw1) (n_s_gens := Ng) (h_s_used := (Cl.of_base h_r_Su) w1 hw1) (n_s_used := Ng) (h_s_free := (Cl.of_base h_r_Sf) w1 hw1) (n_s_free := Ng)) (k := ?_)
 refine D1 ?_
 refine Bo 14 rfl (fun hq1 => ?_) (fun hq1 => ?_)
 ·refine Ab 3 rfl ?_
  refine fH ?_
  refine Jh ?_
  refine Ab 6 rfl ?_
  refine Uy ?_
  refine lP ?_
  refine Dq [] (List.Perm.refl _) results73 rF (fun w1 hw1 => ?_)
  exact ⟨(rq (hF.t hq1)), hw1.ext_out⟩
 have hfhq1 := bR J8
 refine Ar (Al Oh) (k := ?_)
 refine rZ ?_
 refine Z5 ?_
 refine Ao 19 rfl (fun hq2 => ?_) (fun hq2 => ?_)
 ·refine Ab 3 rfl ?_
  refine Jh ?_
  refine Ab 6 rfl ?_
  refine Uy ?_
  refine lP ?_
  refine Dq [] (List.Perm.refl _) results73 rF (fun w1 hw1 => ?_)
  exact ⟨(rq ((hF.f hq1).pos hq2)), hw1.ext_out⟩
 refine Ar (Al Oh) (k := ?_)
 refine rJ ?_
 refine Z5 ?_
 refine Ao 24 rfl (fun hq3 => ?_) (fun hq3 => ?_)
 ·refine Ab 6 rfl ?_
  refine Uy ?_
  refine lP ?_
  refine Dq [] (List.Perm.refl _) results73 rF (fun w1 hw1 => ?_)
  exact ⟨(rq (((hF.f hq1).neg hq2).pos hq3)), hw1.ext_out⟩
 refine Ar (Bm isAgg212) (k := ?_)
 refine Ar (Fg runUnderlying212) (k := ?_)
 refine Ar (Al Qo) (k := ?_)
 refine Ar (Bm isAgg32) (k := ?_)
 refine Ar (Fg runUnderlying32) (k := ?_)
 refine Ar Ro (k := ?_)
 refine Pe ?_
 refine Bi rfl (fun hq4 => ?_) (fun hq4 => ?_)
 ·refine Cb ?_
  refine Cp ?_
  refine lP ?_
  refine Dq [] (List.Perm.refl _) results73 rF (fun w1 hw1 => ?_)
  exact ⟨(rq ((((hF.f hq1).neg hq2).neg hq3).pos hq4)), hw1.ext_out⟩
 refine Ua ?_
 refine Ak Ag Xy (k := fun r4 hr4 => ?_)
 refine Ak Ag (Cj (l := [_]) zeroValue215) (k := fun r5 hr5 => ?_)
 refine Ep (Bn (l' := [_]) sizeOf215) (k := ?_)
 refine Jr ?_
 refine Se ?_
 refine Bq (args := [_]) (Ac call90) func90 ntmps90 ?_
 refine Z2 ?_
 refine Ak Ag mH (k := fun r6 hr6 => ?_)
 refine aE ?_
 refine Bd results90 z0 ?_
 refine Nj ?_
 refine Fx Ag rfl call147 func147 ntmps147 (fun l7 rD7 rr7 hl7 => ?_)
 refine fR ?_
 refine rY ?_
 refine wJ ?_
 refine Rh ?_
 refine aO (σ1 := Nat) (σ2 := Nat) (σ3 := List An) (σ4 := Array MapEntry) (σ5 := Nat) (fun n_3 x_1 x_2 x_2e x_2k => ((l7, Cr rr7 .ready none) :: ((rD7, Obj.deferred (some [])) :: ((r6, oc [(vs r_Sg_a r.slots.gens.length r_Sg_c), (vs r_Su_a r.slots.used.length r_Su_c), (vs r_Sf_a r.slots.free.length r_Sf_c), (vs r_l_a r.l.length r_l_c), (vi r.seq)] 34) :: ((r5, oc [(Value.map (some r4))] 215) :: ((r4, Obj.map x_2e x_2k) :: ((r3, oc [(vs a1_1 ((Xl r.slots).length) c1_1)] 212) :: (B_1 ++ ((r2, oc [(Value.bool false)] 4) :: ((r1, oc [(vs r_Sg_a r.slots.gens.length r_Sg_c), (vs r_Su_a r.slots.used.length r_Su_c), (vs r_Sf_a r.slots.free.length r_Sf_c), (vs r_l_a r.l.length r_l_c), (vi r.seq)] 34) :: [])))))))))) (fun n_3 x_1 x_2 x_2e x_2k => [(0, (Value.func (.yield l7) [].toArray [].toArray)), (1, (Value.pointer (some ⟨r6, 0, none⟩))), (6, (vs r_l_a r.l.length r_l_c)), (7, (vi ((r.l.length : Nat) : Int))), (8, (vi ((x_1 : Nat) : Int)))]) (fun n_3 x_1 x_2 x_2e x_2k => r.l.length - x_1 < n_3 ∧ Is (Pa r (r.l.length + 1) 0 ([] : List An)) (Pa r n_3 x_1 x_2) ∧ Po (fun s : An => Value.string (bs s)) x_2e x_2 ∧ x_1 ≤ r.l.length) (fun n_3 x_1 x_2 x_2e x_2k => n_3) (r.l.length + 1) 0 ([] : List An) (#[]) 0 ?_ se (List.Perm.refl _) ?_
 ·exact ⟨Nat.lt_succ_self _, Is.refl _, Po.nil, z7⟩
 ·rintro (_ | n_3) x_1 x_2 x_2e x_2k ⟨hm5, hF4, hx_2, hi6⟩
  ·omega
  refine Zy ?_
  refine Bi rfl (fun hq5 => ?_) (fun hq5 => ?_)
  rotate_left
  ·refine Cu ?_
   refine Ko ?_
   refine Gh (.inr rfl) results147 q0 ?_
   refine aH ?_
   refine rL ?_
   refine Dq [rD7] (qa q0) results73 rF (fun w1 hw1 => ?_)
   exact ⟨(rq (((((hF.f hq1).neg hq2).neg hq3).neg hq4).ok2 (hF4.neg hq5))), hw1.ext_out⟩
  refine Py ?_
  refine AU7 ?_
  have hcp6 := (h_r_l.2.2 x_1 z4).2.2.1
  have hcp7 := (h_r_l.2.2 x_1 z4).2.2.2
  refine AX0 ?_
  refine Ak Ag eG (k := fun r8 hr8 => ?_)
  refine AW1 ?_
  refine Z0 ?_
  refine Hp ?_
  refine O0 ?_
  refine AW2 ?_
  refine Ly (vs := [(vi ((x_1 : Nat) : Int)), (Value.agg [(vi ((r.l.getD x_1 default).handle.slot)), (vi ((r.l.getD x_1 default).handle.gen)), (vt ((r.l.getD x_1 default).name)), (vi ((r.l.getD x_1 default).state)), (vi ((r.l.getD x_1 default).version)), (vs ((r_l_t.getD x_1 default).ra) ((r.l.getD x_1 default).rules.length) ((r_l_t.getD x_1 default).rc)), (vs ((r_l_t.getD x_1 default).ca) ((r.l.getD x_1 default).creds.length) ((r_l_t.getD x_1 default).cc)), (vi ((r.l.getD x_1 default).deadline)), (vi r.seq)].toArray)]) hl7 (qa q0) Dw ?_
  refine Xv ?_
  refine Cp ?_
  refine Ak Ag (Cj (l := [_, _, _, _, _, _, _, _, _]) zeroValue104) (k := fun r9 hr9 => ?_)
  refine AW5 ?_
  refine K2 ?_
  refine Eu ?_
  refine Eu ?_
  refine Eh mixed 21 [(true, 0), (true, 1), (true, 2), (true, 3), (true, 4), (true, 5), (true, 6), (true, 7), (true, 8), (true, 9), (true, 10), (true, 11), (true, 12), (true, 13), (true, 14), (true, 15), (true, 16), (false, 17), (false, 18), (true, 19), (true, 20)] z2 ?_
  refine Be (Al Hl) (k := ?_)
  refine AW8 ?_
  refine Be (Bm isAgg212) (k := ?_)
  refine Fo ?_
  refine Be (Cz (n := (Xl r.slots).length) runUnderlying212 sizeOf23 x_1 (Hd.slj hs1_1) (gD z4) Kc) (k := ?_)
  refine Be (Gt isAgg23 sizeOf23 x_1 (Hd.slj hs1_1) (gD z4)) (k := ?_)
  refine Be (bD (U7 _ _ _ _ _ _)) (k := ?_)
  refine Fo ?_
  refine Dg 45 rfl (fun hq8 => ?_) (fun hq8 => ?_)
  ·refine Ay 5 rfl ?_
   refine eJ ?_
   refine Ay 4 rfl ?_
   refine oZ ?_
   refine J3 ?_
   refine lP ?_
   refine Rm ?_
   refine Gc q0 ?_
   refine Mp ?_
   refine pA ?_
   refine Ko ?_
   refine C7 ?_
   refine Z7 ?_
   refine Dq [rD7] (qa (qa (qa q0))) results73 rF (fun w1 hw1 => ?_)
   exact ⟨(rq (((((hF.f hq1).neg hq2).neg hq3).neg hq4).er2 ((hF4.pos hq5).pos hq8))), hw1.ext_out⟩
  refine Bu (Bm isAgg215) (k := ?_)
  refine Bu (Al Hl) (k := ?_)
  refine Bu (Al hY) (k := ?_)
  refine Bu (Bm isAgg9) (k := ?_)
  refine Bu (S6 (xs := x_2) ((r.l.getD x_1 default).name) R8 runUnderlying215 runUnderlying9 zeroValue4 hx_2) (k := ?_)
  refine oI ?_
  refine Dg 52 rfl (fun hq9 => ?_) (fun hq9 => ?_)
  ·refine Ay 4 rfl ?_
   refine oZ ?_
   refine J3 ?_
   refine lP ?_
   refine Rm ?_
   refine Gc q0 ?_
   refine Mp ?_
   refine pA ?_
   refine Ko ?_
   refine C7 ?_
   refine Z7 ?_
   refine Dq [rD7] (qa (qa (qa q0))) results73 rF (fun w1 hw1 => ?_)
   exact ⟨(rq (((((hF.f hq1).neg hq2).neg hq3).neg hq4).er2 (((hF4.pos hq5).neg hq8).pos hq9))), hw1.ext_out⟩
  refine Bu (Ch isAgg104 sizeOf104) (k := ?_)
  refine BI1 Ag (Ea (l := [_, _, _]) runUnderlying281 sizeOf217 zeroValue217) (k := fun r10 hr10 => ?_)
  refine gS (args := [_, _]) (Ac call119) func119 ntmps119 ?_
  refine Z2 ?_
  refine Ak Ag z87 (k := fun r11 hr11 => ?_)
  refine Iv ?_
  refine Af (Fg runUnderlying281) (k := ?_)
  refine lO ?_
  refine Af (Ei runUnderlying281 sizeOf217 0) (k := ?_)
  refine Af (Bm isAgg217) (k := ?_)
  refine Hq ?_
  refine Af (Ch isAgg104 sizeOf104) (k := ?_)
  refine Cy (Ac call120) (fun w1 hw1 => lV w1 (t := ((r.l.getD x_1 default), r.seq)) (h_t_1_rules := (fun w hw => ((Hn.of_base Je h_r_l).at (m := x_1) z4 w hw).1) w1 hw1) (h_t_1_creds := (fun w hw => ((Hn.of_base Je h_r_l).at (m := x_1) z4 w hw).2.1) w1 hw1)) (k := ?_)
  refine Rf ?_
  refine Dl rfl (fun hq10 => ?_) (fun hq10 => ?_)
  ·refine Cb ?_
   refine Cp ?_
   refine Ri ?_
   refine AD0 ?_
   refine cR ?_
   refine J3 ?_
   refine lP ?_
   refine Rm ?_
   refine Gc (qa (qa q0)) ?_
   refine Mp ?_
   refine pA ?_
   refine Ko ?_
   refine C7 ?_
   refine Z7 ?_
   refine Dq [rD7] (qa (qa (qa (qa (qa q0))))) results73 rF (fun w1 hw1 => ?_)
   exact ⟨(rq (((((hF.f hq1).neg hq2).neg hq3).neg hq4).er2 ((((hF4.pos hq5).neg hq8).neg hq9).t hq10))), hw1.ext_out⟩
  refine Vb ?_
  refine Af (Ei runUnderlying281 sizeOf217 1) (k := ?_)
  refine Af (Bm isAgg217) (k := ?_)
  refine Hq ?_
  refine Af (Ch isAgg104 sizeOf104) (k := ?_)
  refine Cy (Ac call121) (fun w1 hw1 => lW w1 (t := ((r.l.getD x_1 default), r.seq)) (h_t_1_rules := (fun w hw => ((Hn.of_base Je h_r_l).at (m := x_1) z4 w hw).1) w1 hw1) (h_t_1_creds := (fun w hw => ((Hn.of_base Je h_r_l).at (m := x_1) z4 w hw).2.1) w1 hw1)) (k := ?_)
  refine Rf ?_
  refine Dl rfl (fun hq11 => ?_) (fun hq11 => ?_)
  ·refine Cb ?_
   refine Cp ?_
   refine Ri ?_
   refine AD0 ?_
   refine cR ?_
   refine J3 ?_
   refine lP ?_
   refine Rm ?_
   refine Gc (qa (qa q0)) ?_
   refine Mp ?_
   refine pA ?_
   refine Ko ?_
   refine C7 ?_
   refine Z7 ?_
   refine Dq [rD7] (qa (qa (qa (qa (qa q0))))) results73 rF (fun w1 hw1 => ?_)
   exact ⟨(rq (((((hF.f hq1).neg hq2).neg hq3).neg hq4).er2 (((((hF4.pos hq5).neg hq8).neg hq9).f hq10).t hq11))), hw1.ext_out⟩
  refine Vb ?_
  refine Af (Ei runUnderlying281 sizeOf217 2) (k := ?_)
  refine Af (Bm isAgg217) (k := ?_)
  refine Hq ?_
  refine Af (Ch isAgg104 sizeOf104) (k := ?_)
  refine Cy (Ac call122) (fun w1 hw1 => uM w1 (t := ((r.l.getD x_1 default), r.seq)) (h_t_1_rules := (fun w hw => ((Hn.of_base Je h_r_l).at (m := x_1) z4 w hw).1) w1 hw1) (n_t_1_rules := by first | omega | (simp; done) | exact (hsm _ z3).1 | exact (hsm _ z3).2) (h_t_1_creds := (fun w hw => ((Hn.of_base Je h_r_l).at (m := x_1) z4 w hw).2.1) w1 hw1) (n_t_1_creds := by first | omega | (simp; done) | exact (hsm _ z3).1 | exact (hsm _ z3).2)) (k := ?_)
  refine Rf ?_
  refine Dl rfl (fun hq12 => ?_) (fun hq12 => ?_)
  ·refine Cb ?_
   refine Cp ?_
   refine Ri ?_
   refine AD0 ?_
   refine cR ?_
   refine J3 ?_
   refine lP ?_
   refine Rm ?_
   refine Gc (qa (qa q0)) ?_
   refine Mp ?_
   refine pA ?_
   refine Ko ?_
   refine C7 ?_
   refine Z7 ?_
   refine Dq [rD7] (qa (qa (qa (qa (qa q0))))) results73 rF (fun w1 hw1 => ?_)
   exact ⟨(rq (((((hF.f hq1).neg hq2).neg hq3).neg hq4).er2 ((((((hF4.pos hq5).neg hq8).neg hq9).f hq10).f hq11).t hq12))), hw1.ext_out⟩
  refine cY ?_
  refine AD0 ?_
  refine cR ?_
  refine Rk ?_
  refine Cp ?_
  refine Af (Bm isAgg215) (k := ?_)
  refine Af (Al Hl) (k := ?_)
  refine AH0 ?_
  refine gV (xs := x_2) ((r.l.getD x_1 default).name) R8 runUnderlying215 runUnderlying9 hx_2 z53 (qa (qa (qa (qa (qa (qa (qa (qa q0)))))))) (k := fun em3 km3 hms3 => ?_)
  refine M2 ?_
  refine Fu (qa (qa (qa q0))) ?_
  refine Rf ?_
  refine Sh ?_
  refine Dt _ (((((((((qa (qa (qa (qa (qa (qa (qa (qa (qa (qa (qc (qa q0)))))))))))).trans (qa (qa (qa (qa (qa (qa (qa (qa (qa (qa (qa (qc q0))))))))))))).trans (qb (qb (qb (qb (qb (qb (qb (qb (qb (qb (qb (qb q0))))))))))))).trans (qc (qa (qa (qa (qa (qa (qa (qa (qa (qa (qa (qa q0))))))))))))).trans (qa (qc (qa (qa (qa q0)))))).trans (qa (qa (qc (qa (qa (qa (qa (qa (qa (qa (qa (qa q0))))))))))))).trans (qa (qa (qa (qc (qa (qa (qa (qa (qa (qa (qa (qa q0))))))))))))).trans (qa (qa (qa (qa (qc (qa (qa (qa (qa (qa (qa (qa q0))))))))))))).trans (qa (qa (qa (qa (qa (qc (qa (qa q0))))))))) ?_
  refine Cn _ (List.Sublist.cons_cons _ (List.Sublist.cons_cons _ (List.Sublist.cons_cons _ (List.Sublist.cons_cons _ (List.Sublist.cons_cons _ (List.Sublist.cons_cons _ (List.Sublist.append z37 (List.Sublist.cons_cons _ (List.Sublist.cons_cons _ Mo))))))))) ?_
  exact aP n_3 (x_1 + 1) (x_2 ++ [((r.l.getD x_1 default).name)]) em3 km3 ⟨by omega, ((((((hF4.pos hq5).neg hq8).neg hq9).f hq10).f hq11).f hq12), hms3, z3⟩ (Nat.lt_succ_self _) se (List.Perm.refl _)

end Go.Proofs.YtdnjanhdnibkfaaGreatDoor.Jd

namespace Go.Proofs.YtdnjanhdnibkfaaGreatDoor.Jd
open Go.Proofs.Tryz
open Go.Proofs
open Go.RowKit (Below)
set_option maxRecDepth 100000
set_option maxHeartbeats 8000000
set_option linter.unusedVariables false
set_option linter.unusedSimpArgs false
def Tg (r : Bk) : Nat → Nat → List Ah → Nat × (List Ah)
  | 0, x_1, x_2 => (x_1, x_2)
  | n_3 + 1, x_1, x_2 => (if ((x_1 : Nat) : Int) < ((r.l.length : Nat) : Int) then (Tg r n_3 (x_1 + 1) (x_2 ++ ([(((r.l.getD x_1 default), r.seq).1)] : List Ah))) else (x_1, x_2))
def Wa (r : Bk) : Bk := (Iu (Tg r (r.l.length + 1) 0 []) (fun x_1 x_2 => (Bk.mk r.slots x_2 r.seq)))
def Ce (r : Bk) (name : An) : Ah × Bool := (if (!((Jc r name).2)) = true then ((Ah.mk (Handle.mk 0 0) ([] : An) 0 0 ([]) ([]) 0), false) else ((((r.l.getD ((((Jc r name).1)).toNat) default), r.seq).1), true))
def Cv (n_ : Int) : Bk × Int := ((Bk.mk ((dP n_).1) ([]) 0), ((dP n_).2))
end Go.Proofs.YtdnjanhdnibkfaaGreatDoor.Jd

namespace Go.Proofs.YtdnjanhdnibkfaaGreatDoor.Jd
open Go.Proofs.Tryz
open Go.Proofs
open Go.RowKit (Below)
set_option maxRecDepth 100000
set_option maxHeartbeats 8000000
set_option linter.unusedVariables false
set_option linter.unusedSimpArgs false
def Wu (l : List (Ah × TA)) (x : Ah × TA) : Nat → Nat → Nat
  | 0, at_1 => (at_1)
  | n_2 + 1, at_1 => (if ((at_1 : Nat) : Int) < ((l.length : Nat) : Int) then (if ((l.getD at_1 default).1.handle.slot) < x.1.handle.slot then (Wu l x n_2 (at_1 + 1)) else (at_1)) else (at_1))
def G9 (l : List (Ah × TA)) (x : Ah × TA) : List (Ah × TA) := (Qw (Wu l x (l.length + 1) 0) (fun at_1 => (if 0 < ((((l.drop at_1).length) : Nat) : Int) then (if (((l.drop at_1).getD 0 default).1.handle.slot) = x.1.handle.slot then (if (0 + ((((l.take at_1).length) : Nat) : Int)) < 0 then default else (if ((0 + ((((l.take at_1).length) : Nat) : Int)) + 1) < 0 then default else (if (((0 + ((((l.take at_1).length) : Nat) : Int)) + 1) + (((((l.drop at_1).drop 1).length) : Nat) : Int)) < 0 then default else ((((([] : List (Ah × TA))) ++ (l.take at_1)) ++ ([x] : List (Ah × TA))) ++ ((l.drop at_1).drop 1))))) else (if (0 + ((((l.take at_1).length) : Nat) : Int)) < 0 then default else (if ((0 + ((((l.take at_1).length) : Nat) : Int)) + 1) < 0 then default else (if (((0 + ((((l.take at_1).length) : Nat) : Int)) + 1) + ((((l.drop at_1).length) : Nat) : Int)) < 0 then default else ((((([] : List (Ah × TA))) ++ (l.take at_1)) ++ ([x] : List (Ah × TA))) ++ (l.drop at_1)))))) else (if (0 + ((((l.take at_1).length) : Nat) : Int)) < 0 then default else (if ((0 + ((((l.take at_1).length) : Nat) : Int)) + 1) < 0 then default else (if (((0 + ((((l.take at_1).length) : Nat) : Int)) + 1) + ((((l.drop at_1).length) : Nat) : Int)) < 0 then default else ((((([] : List (Ah × TA))) ++ (l.take at_1)) ++ ([x] : List (Ah × TA))) ++ (l.drop at_1))))))))
end Go.Proofs.YtdnjanhdnibkfaaGreatDoor.Jd

namespace Go.Proofs.YtdnjanhdnibkfaaGreatDoor.Jd
open Go.Proofs.Tryz
set_option linter.unusedVariables false
set_option linter.unusedSimpArgs false
theorem Hx {α : Type} [Inhabited α] {l : List α} {i : Nat} (h : i < l.length) : l.drop i = l.getD i default :: l.drop (i + 1) := by
  rw [List.drop_eq_getElem_cons h, List.getD_eq_getElem?_getD, List.getElem?_eq_getElem h]; rfl
theorem kH (r : Bk) : ∀ n i acc, r.l.length < i + n → i ≤ r.l.length → (Tg r n i acc).2 = acc ++ r.l.drop i
  | 0, i, acc, h1, h2 => by omega
  | n + 1, i, acc, h1, h2 => by
    unfold Tg
    by_cases hi : i < r.l.length
    · rw [if_pos z3, kH r n (i + 1) _ z3 z3, Hx hi]; simp
    · rw [if_neg z3, List.drop_eq_nil_of_le z3]; simp
theorem AN5 (r : Bk) : Wa r = r := by
  unfold Wa
  have h := kH r (r.l.length + 1) 0 [] z3 z3
  cases e : Tg r (r.l.length + 1) 0 [] with
  | mk a b =>
    rw [e] at h
    simp only [Iu]
    rw [show b = r.l by simpa using h]
theorem eR (r : Bk) (name : An) : ∀ n i, (Fe (Jm r name n i) (fun r => r) (fun x_1 => ((0 : Int), false))).2 = true → 0 ≤ (Fe (Jm r name n i) (fun r => r) (fun x_1 => ((0 : Int), false))).1 ∧ (Fe (Jm r name n i) (fun r => r) (fun x_1 => ((0 : Int), false))).1 < r.l.length
  | 0, i => by simp [Jm, Fe]
  | n + 1, i => by
    unfold Jm
    by_cases hi : i < r.l.length
    · rw [if_pos z3]
      by_cases hn : (r.l.getD i default).name = name
      · rw [if_pos hn]; intro _; simp only [Fe]; omega
      · rw [if_neg hn]; exact eR r name n (i + 1)
    · rw [if_neg z3]; simp [Fe]
theorem W7 {r : Bk} {name : An} (h : (Jc r name).2 = true) : 0 ≤ (Jc r name).1 ∧ (Jc r name).1 < r.l.length := eR r name _ _ h
end Go.Proofs.YtdnjanhdnibkfaaGreatDoor.Jd

namespace Go.Proofs.YtdnjanhdnibkfaaGreatDoor.Jd
open Go.Proofs.Tryz
set_option linter.unusedVariables false
set_option linter.unusedSimpArgs false
def xY : List (Ah × TA) → Ah × TA → List (Ah × TA)
  | [], x => [x]
  | t :: r, x => if t.1.handle.slot < x.1.handle.slot then t :: xY r x else if t.1.handle.slot = x.1.handle.slot then x :: r else x :: t :: r
def Xm : List Ah → Ah → List Ah
  | [], x => [x]
  | t :: r, x => if t.handle.slot < x.handle.slot then t :: Xm r x else if t.handle.slot = x.handle.slot then x :: r else x :: t :: r
def kI : List Ah → List TA → Ah → TA → List TA
  | t :: r, u :: us, x, v => if t.handle.slot < x.handle.slot then u :: kI r us x v else if t.handle.slot = x.handle.slot then v :: us else v :: u :: us
  | _, _, x, v => [v]
theorem uN : ∀ (xs : List Ah) (ts : List TA) (x : Ah) (v : TA), ts.length = xs.length → xY (List.zip xs ts) (x, v) = List.zip (Xm xs x) (kI xs ts x v)
  | [], ts, x, v, h => by
    have : ts = [] := List.length_eq_zero_iff.1 h
    subst this; rfl
  | t :: r, [], x, v, h => by simp at h
  | t :: r, u :: us, x, v, h => by
    have h' : us.length = r.length := by simpa using h
    simp only [List.zip_cons_cons, xY, Xm, kI]
    split
    · rw [uN r us x v h']; rfl
    · split <;> rfl
theorem kJ (l : List Ah) (x : Ah) : (Xm l x).length ≤ l.length + 1 := by
  induction l with
  | nil => simp [Xm]
  | cons t r ih =>
    unfold Xm
    split
    · simp only [List.length_cons]; omega
    · split <;> simp
theorem eT : ∀ (xs : List Ah) (ts : List TA) (x : Ah) (v : TA), ts.length = xs.length → (kI xs ts x v).length = (Xm xs x).length
  | [], ts, x, v, h => by
    have : ts = [] := List.length_eq_zero_iff.1 h
    subst this; rfl
  | t :: r, [], x, v, h => by simp at h
  | t :: r, u :: us, x, v, h => by
    have h' : us.length = r.length := by simpa using h
    simp only [Xm, kI]
    split
    · simp only [List.length_cons]; rw [eT r us x v h']
    · split <;> simp [h']
theorem kK (l : List (Ah × TA)) (x : Ah × TA) : ∀ n i, l.length < i + n → i ≤ l.length → Wu l x n i = i + ((l.drop i).takeWhile fun t => decide (t.1.handle.slot < x.1.handle.slot)).length
  | 0, i, h1, h2 => by omega
  | n + 1, i, h1, h2 => by
    unfold Wu
    by_cases hi : i < l.length
    · rw [if_pos z3, Hx hi, List.takeWhile_cons]
      by_cases hs : (l.getD i default).1.handle.slot < x.1.handle.slot
      · rw [if_pos hs, if_pos (by simpa using hs), kK l x n (i + 1) z3 z3, List.length_cons]; omega
      · rw [if_neg hs, if_neg (by simpa using hs)]; rfl
    · rw [if_neg z3, List.drop_eq_nil_of_le z3]; rfl
theorem zN (x : Ah × TA) : ∀ l : List (Ah × TA), xY l x = l.take (l.takeWhile fun t => decide (t.1.handle.slot < x.1.handle.slot)).length ++ [x] ++ (if 0 < (l.drop (l.takeWhile fun t => decide (t.1.handle.slot < x.1.handle.slot)).length).length ∧ ((l.drop (l.takeWhile fun t => decide (t.1.handle.slot < x.1.handle.slot)).length).getD 0 default).1.handle.slot = x.1.handle.slot then (l.drop (l.takeWhile fun t => decide (t.1.handle.slot < x.1.handle.slot)).length).drop 1 else l.drop (l.takeWhile fun t => decide (t.1.handle.slot < x.1.handle.slot)).length)
  | [] => by simp [xY]
  | t :: r => by
    unfold xY
    by_cases hs : t.1.handle.slot < x.1.handle.slot
    · rw [if_pos hs, List.takeWhile_cons, if_pos (by simpa using hs), zN x r]
      simp only [List.length_cons, List.take_succ_cons, List.drop_succ_cons, List.cons_append]
    · have hd : ¬ (decide (t.1.handle.slot < x.1.handle.slot) = true) := by simpa using hs
      rw [if_neg hs, List.takeWhile_cons, if_neg hd]
      by_cases he : t.1.handle.slot = x.1.handle.slot
      · rw [if_pos he]; simp [he]
      · rw [if_neg he]; simp [he]
theorem AN6 (l : List (Ah × TA)) (x : Ah × TA) : G9 l x = xY l x := by
  have h := kK l x (l.length + 1) 0 z3 z3
  simp only [List.drop_zero, Nat.zero_add] at h
  unfold G9
  rw [h, zN]
  simp only [Qw]
  generalize (l.takeWhile fun t => decide (t.1.handle.slot < x.1.handle.slot)).length = k
  by_cases h1 : 0 < (l.drop k).length
  · rw [if_pos z3]
    by_cases h2 : ((l.drop k).getD 0 default).1.handle.slot = x.1.handle.slot
    · rw [if_pos h2, if_neg z3, if_neg z3, if_neg z3, if_pos ⟨h1, h2⟩]; rfl
    · rw [if_neg h2, if_neg z3, if_neg z3, if_neg z3, if_neg (fun h => h2 h.2)]; rfl
  · rw [if_neg z3, if_neg z3, if_neg z3, if_neg z3, if_neg (fun h => h1 h.1)]; rfl
theorem W8 {xs : List Ah} {ts : List TA} (x : Ah) (v : TA) (h : ts.length = xs.length) : G9 (List.zip xs ts) (x, v) = List.zip (Xm xs x) (kI xs ts x v) := by rw [AN6, uN xs ts x v h]
section
variable {B : Av} {α β : Type} [Inhabited α] [Inhabited β] {D : World → α → β → Prop} {xs : List α} {ts : List β}
theorem Dr.cons_iff {x : α} {v : β} : Dr B D (x :: xs) (v :: ts) ↔ (∀ w : World, (∀ p ∈ B, w.heap[p.1]? = some p.2) → D w x v) ∧ Dr B D xs ts := by
  constructor
  · rintro ⟨h1, h2⟩
    refine ⟨fun w hw => h2 w hw 0 Ij, by simpa using h1, fun w hw i hi => ?_⟩
    have := h2 w hw (i + 1) (by simp; omega)
    simpa using this
  · rintro ⟨h1, h2, h3⟩
    refine ⟨by simp [h2], fun w hw i hi => ?_⟩
    cases i with
    | zero => simpa using h1 w hw
    | succ i => simpa using h3 w hw i (by simpa using hi)
end
theorem Dr.put {B : Av} {D : World → Ah → TA → Prop} : ∀ {xs : List Ah} {ts : List TA} {x : Ah} {v : TA}, Dr B D xs ts → Dr B D [x] [v] → Dr B D (Xm xs x) (kI xs ts x v)
  | [], ts, x, v, h, h1 => by
    have : ts = [] := List.length_eq_zero_iff.1 h.1
    subst this; exact h1
  | t :: r, [], x, v, h, h1 => by have := h.1; simp at this
  | t :: r, u :: us, x, v, h, h1 => by
    obtain ⟨h2, h3⟩ := Dr.cons_iff.1 h
    simp only [Xm, kI]
    split
    · exact Dr.cons_iff.2 ⟨h2, h3.put h1⟩
    · split
      · exact Dr.cons_iff.2 ⟨(Dr.cons_iff.1 h1).1, h3⟩
      · exact Dr.cons_iff.2 ⟨(Dr.cons_iff.1 h1).1, h⟩
end Go.Proofs.YtdnjanhdnibkfaaGreatDoor.Jd

namespace Go.Proofs.YtdnjanhdnibkfaaGreatDoor.Jd
open Go.Proofs.Tryz
open Go.Proofs
open Go.RowKit (Below)
set_option maxRecDepth 100000
set_option maxHeartbeats 8000000
set_option linter.unusedVariables false
set_option linter.unusedSimpArgs false
structure Frame where
  kind : Int
  stream : Int
  data : An
instance : Inhabited Frame := ⟨⟨default, default, default⟩⟩
instance : DecidableEq Frame := fun a b => decidable_of_iff (a.kind = b.kind ∧ a.stream = b.stream ∧ a.data = b.data) ⟨fun h => by cases a; cases b; simp_all, fun h => by subst h; simp⟩
structure Session where
  phase : Int
  name : An
  handle : Handle
  a : Int
  b : Int
  opn : List Int
instance : Inhabited Session := ⟨⟨default, default, default, default, default, default⟩⟩
instance : DecidableEq Session := fun a b => decidable_of_iff (a.phase = b.phase ∧ a.name = b.name ∧ a.handle = b.handle ∧ a.a = b.a ∧ a.b = b.b ∧ a.opn = b.opn) ⟨fun h => by cases a; cases b; simp_all, fun h => by subst h; simp⟩
structure Act where
  kind : Int
  stream : Int
  data : An
  n : Int
  target : Cd
instance : Inhabited Act := ⟨⟨default, default, default, default, default⟩⟩
instance : DecidableEq Act := fun a b => decidable_of_iff (a.kind = b.kind ∧ a.stream = b.stream ∧ a.data = b.data ∧ a.n = b.n ∧ a.target = b.target) ⟨fun h => by cases a; cases b; simp_all, fun h => by subst h; simp⟩
def Dy (f : Frame) : Bool := (Uc (if f.kind = 1 then (true, 1, 64) else (if f.kind = 2 then (true, 32, 32) else (if f.kind = 3 then (true, 1, 64) else (if f.kind = 4 then (true, 1, 512) else (if f.kind = 5 then (true, 2, 2) else (if f.kind = 6 then (true, 0, 0) else (if f.kind = 7 then (true, 0, 0) else (if f.kind = 8 then (true, 0, 8) else (false, 0, 0))))))))) (fun ok_1 x_2 x_3 => (if ¬ (f.kind = 0 ∧ f.stream = 0 ∧ f.data = ([] : An)) then (if ok_1 = true then (if ((x_2 : Nat) : Int) ≤ ((f.data.length : Nat) : Int) then (if ((f.data.length : Nat) : Int) ≤ ((x_3 : Nat) : Int) then (if 0 ≤ f.stream then (if f.stream ≤ 65535 then (if f.kind = 1 then (true == decide (f.stream = 0)) else (if f.kind = 2 then (true == decide (f.stream = 0)) else (decide (f.kind = 8) == decide (f.stream = 0)))) else false) else false) else false) else false) else false) else false)))
def zO (s : An) : Int := (if ((s.length : Nat) : Int) ≠ 2 then 0 else (((((s.getD 0 default).toNat : Nat) : Int) * 256) + (((s.getD 1 default).toNat : Nat) : Int)))
def Kd (n_ : Int) : An × Int := (if n_ < 0 then (([] : An), 2) else (if 65535 < n_ then (([] : An), 2) else ((Pn ([(IntKind.u8.wrap (n_ / 256)), (IntKind.u8.wrap (n_ % 256))] : List Int)), 0)))
def Df (a : Int) (b : Int) : Session × Int := (if a < 0 then ((Session.mk 0 ([] : An) (Handle.mk 0 0) 0 0 ([])), 180) else (if 2147483647 < a then ((Session.mk 0 ([] : An) (Handle.mk 0 0) 0 0 ([])), 180) else (if b < 0 then ((Session.mk 0 ([] : An) (Handle.mk 0 0) 0 0 ([])), 180) else (if 2147483647 < b then ((Session.mk 0 ([] : An) (Handle.mk 0 0) 0 0 ([])), 180) else ((Session.mk 0 ([] : An) (Handle.mk 0 0) a b ([])), 0)))))
def Eo (l : List Int) : Nat → Nat → Int → Except Bool (Nat × Int)
  | 0, x_1, x_2 => .ok (x_1, x_2)
  | n_3 + 1, x_1, x_2 => (if ((x_1 : Nat) : Int) < ((l.length : Nat) : Int) then (if (l.getD x_1 default) ≤ x_2 then .error false else (Eo l n_3 (x_1 + 1) (l.getD x_1 default))) else .ok (x_1, x_2))
def Eg (l : List Int) : Bool := (Gu (Eo l (l.length + 1) 0 0) (fun r => r) (fun x_1 x_2 => (if x_2 ≤ 65535 then decide (((l.length : Nat) : Int) ≤ 8) else false)))
def Fv (s : Session) : Bool := (Uc (if s.phase = 0 then (true, false, false) else (if s.phase = 1 then (true, true, false) else (if s.phase = 2 then (true, true, true) else (if s.phase = 3 then (true, false, false) else (false, false, false))))) (fun ok_1 x_2 x_3 => (if ((s.name.length : Nat) : Int) ≤ 64 then (if s.handle.slot = 0 ∧ s.handle.gen = 0 then (if ok_1 = true then (if s.a < 0 then false else (if 2147483647 < s.a then false else (if s.b < 0 then false else (if 2147483647 < s.b then false else (if (decide (s.name ≠ ([] : An)) == x_2) = true then (if x_3 = true then (Eg s.opn) else (if ((s.opn.length : Nat) : Int) = 0 then (Eg s.opn) else false)) else false))))) else false) else (if ok_1 = true then (if s.a < 0 then false else (if 2147483647 < s.a then false else (if s.b < 0 then false else (if 2147483647 < s.b then false else (if (decide (s.name ≠ ([] : An)) == x_2) = true then (if x_3 = true then (Eg s.opn) else false) else false))))) else false)) else (if s.handle.slot = 0 ∧ s.handle.gen = 0 then (if ok_1 = true then (if s.a < 0 then false else (if 2147483647 < s.a then false else (if s.b < 0 then false else (if 2147483647 < s.b then false else false)))) else false) else (if ok_1 = true then (if s.a < 0 then false else (if 2147483647 < s.a then false else (if s.b < 0 then false else (if 2147483647 < s.b then false else false)))) else false)))))
def Nd (s : Session) (stream : Int) : Nat → Nat → Except Bool Nat
  | 0, x_1 => .ok x_1
  | n_2 + 1, x_1 => (if ((x_1 : Nat) : Int) < ((s.opn.length : Nat) : Int) then (if (s.opn.getD x_1 default) = stream then .error true else (Nd s stream n_2 (x_1 + 1))) else .ok x_1)
def Dp (s : Session) (stream : Int) : Bool := (Fe (Nd s stream (s.opn.length + 1) 0) (fun r => r) (fun x_1 => false))
end Go.Proofs.YtdnjanhdnibkfaaGreatDoor.Jd

namespace Go.Proofs.YtdnjanhdnibkfaaGreatDoor.Jd
open Go.Proofs.Tryz
open Go.Proofs
open Go.RowKit (Below)
set_option maxRecDepth 100000
set_option maxHeartbeats 8000000
set_option linter.unusedVariables false
set_option linter.unusedSimpArgs false
def Fa (x : List Int) (target : Int) : Nat → Nat → Nat → Nat × Nat
  | 0, i_1, j_2 => (i_1, j_2)
  | n_3 + 1, i_1, j_2 => (if ((i_1 : Nat) : Int) < ((j_2 : Nat) : Int) then (if (x.getD ((i_1 + j_2) / 2) default) ≠ (x.getD ((i_1 + j_2) / 2) default) then default else (if (x.getD ((i_1 + j_2) / 2) default) < target then (Fa x target n_3 (((i_1 + j_2) / 2) + 1) j_2) else (Fa x target n_3 i_1 ((i_1 + j_2) / 2)))) else (i_1, j_2))
def Gb (x : List Int) (target : Int) : Int × Bool := (Iu (Fa x target (x.length + 1) 0 x.length) (fun i_1 j_2 => (if ((i_1 : Nat) : Int) < ((x.length : Nat) : Int) then (if (x.getD i_1 default) = target then (((i_1 : Nat) : Int), true) else (if (x.getD i_1 default) ≠ (x.getD i_1 default) then default else (((i_1 : Nat) : Int), false))) else (((i_1 : Nat) : Int), false))))
def Gy (s : Session) (stream : Int) (x_1 : Nat) : Nat → List Int → Nat → Nat → (List Int) × Nat × Nat
  | 0, s_6, i_7, j_8 => (s_6, i_7, j_8)
  | n_9 + 1, s_6, i_7, j_8 => (if ((j_8 : Nat) : Int) < ((s_6.length : Nat) : Int) then (if ¬ ((s_6.getD j_8 default) = stream) then (Gy s stream x_1 n_9 (s_6.set i_7 (s_6.getD j_8 default)) (i_7 + 1) (j_8 + 1)) else (Gy s stream x_1 n_9 s_6 i_7 (j_8 + 1))) else (s_6, i_7, j_8))
def Km (s : Session) (stream : Int) : Nat → Nat → Except (Session × Int) Nat
  | 0, x_1 => .ok x_1
  | n_2 + 1, x_1 => (if ((x_1 : Nat) : Int) < ((s.opn.length : Nat) : Int) then (if (s.opn.getD x_1 default) = stream then .error (if ((x_1 : Nat) : Int) = (-1) then (s, 0) else (Uc (Gy s stream x_1 (s.opn.length - (x_1 + 1) + 1) s.opn x_1 (x_1 + 1)) (fun s_6 i_7 j_8 => ((Session.mk s.phase s.name s.handle s.a s.b ((s_6.take i_7).take i_7)), 0)))) else (Km s stream n_2 (x_1 + 1))) else .ok x_1)
def Fj (s : Session) (stream : Int) : Session × Int := (if (!(Fv s)) = true then ((Session.mk 0 ([] : An) (Handle.mk 0 0) 0 0 ([])), 180) else (if (!(Dp s stream)) = true then ((Session.mk 0 ([] : An) (Handle.mk 0 0) 0 0 ([])), 181) else (Fe (Km s stream (s.opn.length + 1) 0) (fun r => r) (fun x_1 => (s, 0)))))
end Go.Proofs.YtdnjanhdnibkfaaGreatDoor.Jd

namespace Go.Proofs.YtdnjanhdnibkfaaGreatDoor.Jd
open Go.Proofs.Tryz
open Go.Proofs
open Go.RowKit (Below)
set_option maxRecDepth 100000
set_option maxHeartbeats 8000000
set_option linter.unusedVariables false
set_option linter.unusedSimpArgs false
def Aj (s : Session) (f : Frame) (r : Bk) (now : Int) : Session × (List Frame) × Act × Int := (if (!(Fv s)) = true then ((Session.mk 0 ([] : An) (Handle.mk 0 0) 0 0 ([])), [], (Act.mk 0 0 ([] : An) 0 (Cd.mk 0 0)), 180) else (if (!(Dy f)) = true then ((Session.mk 0 ([] : An) (Handle.mk 0 0) 0 0 ([])), [], (Act.mk 0 0 ([] : An) 0 (Cd.mk 0 0)), 33) else (if s.phase = 3 then (s, [], (Act.mk 0 0 ([] : An) 0 (Cd.mk 0 0)), 0) else (if s.phase = 0 then (if f.kind = 8 then (s, ([(Frame.mk 8 f.stream f.data)] : List Frame), (Act.mk 0 0 ([] : An) 0 (Cd.mk 0 0)), 0) else (if f.kind = 1 then ((Session.mk 1 f.data s.handle s.a s.b s.opn), ([(Frame.mk 2 f.stream ((Ic s.a s.b).1))] : List Frame), (Act.mk 0 0 ([] : An) 0 (Cd.mk 0 0)), 0) else ((Session.mk 3 ([] : An) (Handle.mk 0 0) s.a s.b ([])), [], (Act.mk 6 0 ([] : An) 0 (Cd.mk 0 0)), 0))) else (if s.phase = 1 then (if f.kind = 8 then (s, ([(Frame.mk 8 f.stream f.data)] : List Frame), (Act.mk 0 0 ([] : An) 0 (Cd.mk 0 0)), 0) else (if f.kind = 2 then (Iu (((Ce r s.name).1.rules), ((Ce r s.name).1.creds)) (fun x_1 x_2 => (if ((Ce r s.name).2) = true then (if ((Ce r s.name).1.state) = 1 then (if s.phase ≠ 2 then (if (!((Nt x_2 now ((Ic s.a s.b).1) s.name f.data).2)) = true then ((Session.mk 3 ([] : An) (Handle.mk 0 0) s.a s.b ([])), [], (Act.mk 6 0 ([] : An) 0 (Cd.mk 0 0)), 0) else ((Session.mk 2 s.name ((Ce r s.name).1.handle) s.a s.b s.opn), ([(Frame.mk 1 f.stream s.name)] : List Frame), (Act.mk 7 0 ([] : An) 0 (Cd.mk 0 0)), 0)) else (if ¬ (((Ce r s.name).1.handle.slot) = s.handle.slot ∧ ((Ce r s.name).1.handle.gen) = s.handle.gen) then ((Session.mk 3 ([] : An) (Handle.mk 0 0) s.a s.b ([])), [], (Act.mk 6 0 ([] : An) 0 (Cd.mk 0 0)), 0) else (if (!((Nt x_2 now ((Ic s.a s.b).1) s.name f.data).2)) = true then ((Session.mk 3 ([] : An) (Handle.mk 0 0) s.a s.b ([])), [], (Act.mk 6 0 ([] : An) 0 (Cd.mk 0 0)), 0) else ((Session.mk 2 s.name ((Ce r s.name).1.handle) s.a s.b s.opn), ([(Frame.mk 1 f.stream s.name)] : List Frame), (Act.mk 7 0 ([] : An) 0 (Cd.mk 0 0)), 0)))) else ((Session.mk 3 ([] : An) (Handle.mk 0 0) s.a s.b ([])), [], (Act.mk 6 0 ([] : An) 0 (Cd.mk 0 0)), 0)) else ((Session.mk 3 ([] : An) (Handle.mk 0 0) s.a s.b ([])), [], (Act.mk 6 0 ([] : An) 0 (Cd.mk 0 0)), 0)))) else ((Session.mk 3 ([] : An) (Handle.mk 0 0) s.a s.b ([])), [], (Act.mk 6 0 ([] : An) 0 (Cd.mk 0 0)), 0))) else (if f.kind = 8 then (s, ([(Frame.mk 8 f.stream f.data)] : List Frame), (Act.mk 0 0 ([] : An) 0 (Cd.mk 0 0)), 0) else (if f.kind = 3 then (if (Dp s f.stream) = true then ((Session.mk 3 ([] : An) (Handle.mk 0 0) s.a s.b ([])), [], (Act.mk 6 0 ([] : An) 0 (Cd.mk 0 0)), 0) else (Iu (((Ce r s.name).1.rules), ((Ce r s.name).1.creds)) (fun x_6 x_7 => (if ((Ce r s.name).2) = true then (if ((Ce r s.name).1.state) = 1 then (if s.phase ≠ 2 then (if ¬ (((Cs f.data).2) = 0) then (s, ([(Frame.mk 7 f.stream ([] : An))] : List Frame), (Act.mk 0 0 ([] : An) 0 (Cd.mk 0 0)), 0) else (if ((Ek x_6 ((Cs f.data).1)).1) = true then (if ¬ (((Ek x_6 ((Cs f.data).1)).2.2) = 0) then (s, ([(Frame.mk 7 f.stream ([] : An))] : List Frame), (Act.mk 0 0 ([] : An) 0 (Cd.mk 0 0)), 0) else (if ¬ (((s.opn.length : Nat) : Int) < 8) then (s, ([(Frame.mk 7 f.stream ([] : An))] : List Frame), (Act.mk 0 0 ([] : An) 0 (Cd.mk 0 0)), 0) else ((Session.mk s.phase s.name s.handle s.a s.b (Mz s.opn ((Gb s.opn f.stream).1).toNat f.stream)), ([(Frame.mk 5 f.stream ((Kd 4096).1))] : List Frame), (Act.mk 1 f.stream ([] : An) 0 ((Cs f.data).1)), 0))) else (s, ([(Frame.mk 7 f.stream ([] : An))] : List Frame), (Act.mk 0 0 ([] : An) 0 (Cd.mk 0 0)), 0))) else (if ((Ce r s.name).1.handle.slot) = s.handle.slot ∧ ((Ce r s.name).1.handle.gen) = s.handle.gen then (if ¬ (((Cs f.data).2) = 0) then (s, ([(Frame.mk 7 f.stream ([] : An))] : List Frame), (Act.mk 0 0 ([] : An) 0 (Cd.mk 0 0)), 0) else (if ((Ek x_6 ((Cs f.data).1)).1) = true then (if ¬ (((Ek x_6 ((Cs f.data).1)).2.2) = 0) then (s, ([(Frame.mk 7 f.stream ([] : An))] : List Frame), (Act.mk 0 0 ([] : An) 0 (Cd.mk 0 0)), 0) else (if ¬ (((s.opn.length : Nat) : Int) < 8) then (s, ([(Frame.mk 7 f.stream ([] : An))] : List Frame), (Act.mk 0 0 ([] : An) 0 (Cd.mk 0 0)), 0) else ((Session.mk s.phase s.name s.handle s.a s.b (Mz s.opn ((Gb s.opn f.stream).1).toNat f.stream)), ([(Frame.mk 5 f.stream ((Kd 4096).1))] : List Frame), (Act.mk 1 f.stream ([] : An) 0 ((Cs f.data).1)), 0))) else (s, ([(Frame.mk 7 f.stream ([] : An))] : List Frame), (Act.mk 0 0 ([] : An) 0 (Cd.mk 0 0)), 0))) else (s, ([(Frame.mk 7 f.stream ([] : An))] : List Frame), (Act.mk 0 0 ([] : An) 0 (Cd.mk 0 0)), 0))) else (s, ([(Frame.mk 7 f.stream ([] : An))] : List Frame), (Act.mk 0 0 ([] : An) 0 (Cd.mk 0 0)), 0)) else (s, ([(Frame.mk 7 f.stream ([] : An))] : List Frame), (Act.mk 0 0 ([] : An) 0 (Cd.mk 0 0)), 0))))) else (if f.kind = 4 then (if (!(Dp s f.stream)) = true then (s, ([(Frame.mk 7 f.stream ([] : An))] : List Frame), (Act.mk 0 0 ([] : An) 0 (Cd.mk 0 0)), 0) else (s, [], (Act.mk 2 f.stream f.data 0 (Cd.mk 0 0)), 0)) else (if f.kind = 5 then (if (!(Dp s f.stream)) = true then (s, ([(Frame.mk 7 f.stream ([] : An))] : List Frame), (Act.mk 0 0 ([] : An) 0 (Cd.mk 0 0)), 0) else (s, [], (Act.mk 3 f.stream ([] : An) (zO f.data) (Cd.mk 0 0)), 0)) else (if f.kind = 6 then (if (!(Dp s f.stream)) = true then (s, ([(Frame.mk 7 f.stream ([] : An))] : List Frame), (Act.mk 0 0 ([] : An) 0 (Cd.mk 0 0)), 0) else (s, [], (Act.mk 4 f.stream ([] : An) 0 (Cd.mk 0 0)), 0)) else (if f.kind = 7 then (if ((Fj s f.stream).2) = 0 then ((Fj s f.stream).1, [], (Act.mk 5 f.stream ([] : An) 0 (Cd.mk 0 0)), 0) else (s, [], (Act.mk 0 0 ([] : An) 0 (Cd.mk 0 0)), 0)) else ((Session.mk 3 ([] : An) (Handle.mk 0 0) s.a s.b ([])), [], (Act.mk 6 0 ([] : An) 0 (Cd.mk 0 0)), 0))))))))))))
end Go.Proofs.YtdnjanhdnibkfaaGreatDoor.Jd

namespace Go.Proofs.YtdnjanhdnibkfaaGreatDoor.Jd
open Go.Proofs.Tryz
open Go.Proofs
open Go.RowKit (Below)
set_option maxRecDepth 100000
set_option maxHeartbeats 8000000
set_option linter.unusedVariables false
set_option linter.unusedSimpArgs false
def Ob  : (List Eb) × Int × Int := (if (!(Ps ([]))) = true then default else (if (!(Vo ([107] : An))) = true then default else (if (!(bL 0 0 1000000000000)) = true then default else (if (!(bL 0 0 1000000000)) = true then default else (if (!(bL 100 1 1000000000)) = true then default else (if 4 < (((([(Eb.mk 1 ([107] : An) 0 100)] : List Eb).length) : Nat) : Int) then default else (([(Eb.mk 1 ([107] : An) 0 100)] : List Eb), 1, 0)))))))
def Bf (r : Bk) : Bk × zG := (if (!(Zb r)) = true then default else (if 1000000000000 ≤ r.seq then default else (if (!(mZ 3 1)) = true then default else (if (!(Tb ([97, 99, 109, 101] : An))) = true then default else (if ((Jc (Bk.mk r.slots r.l (r.seq + 1)) ([97, 99, 109, 101] : An)).2) = true then default else (if ((Gi r.slots).2.2) ≠ 0 then default else (if Ob.2.2 ≠ 0 then default else (E3 () ((Bk.mk ((Gi r.slots).1) (Xm r.l (Ah.mk ((Gi r.slots).2.1) ([97, 99, 109, 101] : An) 1 1 ([]) Ob.1 0)) (r.seq + 1)), (zG.mk 0 (r.seq + 1) ((Gi r.slots).2.1) 1 1))))))))))
end Go.Proofs.YtdnjanhdnibkfaaGreatDoor.Jd

namespace Go.Proofs.YtdnjanhdnibkfaaGreatDoor.Jd
open Go.Proofs.Tryz
open Go.Proofs
open Go.RowKit (Below)
set_option maxRecDepth 100000
set_option maxHeartbeats 8000000
set_option linter.unusedVariables false
set_option linter.unusedSimpArgs false
def Am (s : Session) : Session := (Session.mk s.phase (s.name.take (min s.name.length 65)) s.handle s.a s.b (s.opn.take (min s.opn.length 10)))
def Aq (f : Frame) : Frame := (Frame.mk f.kind f.stream (f.data.take (min f.data.length 513)))
def Ds  : Bool := (if ((Cv 2).2) ≠ 0 then false else (if ((Df 1 2).2) ≠ 0 then false else (if ((Aj ((Df 1 2).1) (Frame.mk 1 0 ([97, 99, 109, 101] : An)) ((Bf ((Cv 2).1)).1) 5).2.2.2) ≠ 0 then false else (if ((((Aj ((Df 1 2).1) (Frame.mk 1 0 ([97, 99, 109, 101] : An)) ((Bf ((Cv 2).1)).1) 5).2.1.length) : Nat) : Int) ≠ 1 then false else (if ((Kg ([107] : An) ((((Aj ((Df 1 2).1) (Frame.mk 1 0 ([97, 99, 109, 101] : An)) ((Bf ((Cv 2).1)).1) 5).2.1).getD 0 default).data) ([97, 99, 109, 101] : An)).2) = 0 then (if ((Aj ((Aj ((Df 1 2).1) (Frame.mk 1 0 ([97, 99, 109, 101] : An)) ((Bf ((Cv 2).1)).1) 5).1) (Frame.mk 2 0 ((Kg ([107] : An) ((((Aj ((Df 1 2).1) (Frame.mk 1 0 ([97, 99, 109, 101] : An)) ((Bf ((Cv 2).1)).1) 5).2.1).getD 0 default).data) ([97, 99, 109, 101] : An)).1)) ((Bf ((Cv 2).1)).1) 5).2.2.2) = 0 then (if ((Aj ((Aj ((Df 1 2).1) (Frame.mk 1 0 ([97, 99, 109, 101] : An)) ((Bf ((Cv 2).1)).1) 5).1) (Frame.mk 2 0 ((Kg ([107] : An) ((((Aj ((Df 1 2).1) (Frame.mk 1 0 ([97, 99, 109, 101] : An)) ((Bf ((Cv 2).1)).1) 5).2.1).getD 0 default).data) ([97, 99, 109, 101] : An)).1)) ((Bf ((Cv 2).1)).1) 5).2.2.1.kind) = 7 then (if ((((Aj ((Aj ((Df 1 2).1) (Frame.mk 1 0 ([97, 99, 109, 101] : An)) ((Bf ((Cv 2).1)).1) 5).1) (Frame.mk 2 0 ((Kg ([107] : An) ((((Aj ((Df 1 2).1) (Frame.mk 1 0 ([97, 99, 109, 101] : An)) ((Bf ((Cv 2).1)).1) 5).2.1).getD 0 default).data) ([97, 99, 109, 101] : An)).1)) ((Bf ((Cv 2).1)).1) 5).2.1.length) : Nat) : Int) = 1 then (if ((((Aj ((Aj ((Df 1 2).1) (Frame.mk 1 0 ([97, 99, 109, 101] : An)) ((Bf ((Cv 2).1)).1) 5).1) (Frame.mk 2 0 ((Kg ([107] : An) ((((Aj ((Df 1 2).1) (Frame.mk 1 0 ([97, 99, 109, 101] : An)) ((Bf ((Cv 2).1)).1) 5).2.1).getD 0 default).data) ([97, 99, 109, 101] : An)).1)) ((Bf ((Cv 2).1)).1) 5).2.1).getD 0 default).kind) = 1 ∧ ((((Aj ((Aj ((Df 1 2).1) (Frame.mk 1 0 ([97, 99, 109, 101] : An)) ((Bf ((Cv 2).1)).1) 5).1) (Frame.mk 2 0 ((Kg ([107] : An) ((((Aj ((Df 1 2).1) (Frame.mk 1 0 ([97, 99, 109, 101] : An)) ((Bf ((Cv 2).1)).1) 5).2.1).getD 0 default).data) ([97, 99, 109, 101] : An)).1)) ((Bf ((Cv 2).1)).1) 5).2.1).getD 0 default).stream) = 0 ∧ ((((Aj ((Aj ((Df 1 2).1) (Frame.mk 1 0 ([97, 99, 109, 101] : An)) ((Bf ((Cv 2).1)).1) 5).1) (Frame.mk 2 0 ((Kg ([107] : An) ((((Aj ((Df 1 2).1) (Frame.mk 1 0 ([97, 99, 109, 101] : An)) ((Bf ((Cv 2).1)).1) 5).2.1).getD 0 default).data) ([97, 99, 109, 101] : An)).1)) ((Bf ((Cv 2).1)).1) 5).2.1).getD 0 default).data) = ([97, 99, 109, 101] : An) then (if ((Aj ((Aj ((Df 1 2).1) (Frame.mk 1 0 ([97, 99, 109, 101] : An)) ((Bf ((Cv 2).1)).1) 5).1) (Frame.mk 2 0 ((Kg ([107] : An) ((((Aj ((Df 1 2).1) (Frame.mk 1 0 ([97, 99, 109, 101] : An)) ((Bf ((Cv 2).1)).1) 5).2.1).getD 0 default).data) ([97, 99, 109, 101] : An)).1)) ((Bf ((Cv 2).1)).1) 5).1.phase) = 2 then (if ((Aj ((Aj ((Aj ((Df 1 2).1) (Frame.mk 1 0 ([97, 99, 109, 101] : An)) ((Bf ((Cv 2).1)).1) 5).1) (Frame.mk 2 0 ((Kg ([107] : An) ((((Aj ((Df 1 2).1) (Frame.mk 1 0 ([97, 99, 109, 101] : An)) ((Bf ((Cv 2).1)).1) 5).2.1).getD 0 default).data) ([97, 99, 109, 101] : An)).1)) ((Bf ((Cv 2).1)).1) 5).1) (Frame.mk 3 1 ([49, 46, 50, 46, 51, 46, 52, 58, 56, 48] : An)) ((Bf ((Cv 2).1)).1) 5).2.2.2) = 0 then (if ((((Aj ((Aj ((Aj ((Df 1 2).1) (Frame.mk 1 0 ([97, 99, 109, 101] : An)) ((Bf ((Cv 2).1)).1) 5).1) (Frame.mk 2 0 ((Kg ([107] : An) ((((Aj ((Df 1 2).1) (Frame.mk 1 0 ([97, 99, 109, 101] : An)) ((Bf ((Cv 2).1)).1) 5).2.1).getD 0 default).data) ([97, 99, 109, 101] : An)).1)) ((Bf ((Cv 2).1)).1) 5).1) (Frame.mk 3 1 ([49, 46, 50, 46, 51, 46, 52, 58, 56, 48] : An)) ((Bf ((Cv 2).1)).1) 5).2.1.length) : Nat) : Int) = 1 then (if ((((Aj ((Aj ((Aj ((Df 1 2).1) (Frame.mk 1 0 ([97, 99, 109, 101] : An)) ((Bf ((Cv 2).1)).1) 5).1) (Frame.mk 2 0 ((Kg ([107] : An) ((((Aj ((Df 1 2).1) (Frame.mk 1 0 ([97, 99, 109, 101] : An)) ((Bf ((Cv 2).1)).1) 5).2.1).getD 0 default).data) ([97, 99, 109, 101] : An)).1)) ((Bf ((Cv 2).1)).1) 5).1) (Frame.mk 3 1 ([49, 46, 50, 46, 51, 46, 52, 58, 56, 48] : An)) ((Bf ((Cv 2).1)).1) 5).2.1).getD 0 default).kind) = 7 then (if ((Aj ((Aj ((Aj ((Df 1 2).1) (Frame.mk 1 0 ([97, 99, 109, 101] : An)) ((Bf ((Cv 2).1)).1) 5).1) (Frame.mk 2 0 ((Kg ([107] : An) ((((Aj ((Df 1 2).1) (Frame.mk 1 0 ([97, 99, 109, 101] : An)) ((Bf ((Cv 2).1)).1) 5).2.1).getD 0 default).data) ([97, 99, 109, 101] : An)).1)) ((Bf ((Cv 2).1)).1) 5).1) (Frame.mk 2 0 ((Kg ([107] : An) ((((Aj ((Df 1 2).1) (Frame.mk 1 0 ([97, 99, 109, 101] : An)) ((Bf ((Cv 2).1)).1) 5).2.1).getD 0 default).data) ([97, 99, 109, 101] : An)).1)) ((Bf ((Cv 2).1)).1) 5).2.2.2) = 0 then (if ((Aj ((Aj ((Aj ((Df 1 2).1) (Frame.mk 1 0 ([97, 99, 109, 101] : An)) ((Bf ((Cv 2).1)).1) 5).1) (Frame.mk 2 0 ((Kg ([107] : An) ((((Aj ((Df 1 2).1) (Frame.mk 1 0 ([97, 99, 109, 101] : An)) ((Bf ((Cv 2).1)).1) 5).2.1).getD 0 default).data) ([97, 99, 109, 101] : An)).1)) ((Bf ((Cv 2).1)).1) 5).1) (Frame.mk 2 0 ((Kg ([107] : An) ((((Aj ((Df 1 2).1) (Frame.mk 1 0 ([97, 99, 109, 101] : An)) ((Bf ((Cv 2).1)).1) 5).2.1).getD 0 default).data) ([97, 99, 109, 101] : An)).1)) ((Bf ((Cv 2).1)).1) 5).2.2.1.kind) = 6 then decide (((Aj ((Aj ((Aj ((Df 1 2).1) (Frame.mk 1 0 ([97, 99, 109, 101] : An)) ((Bf ((Cv 2).1)).1) 5).1) (Frame.mk 2 0 ((Kg ([107] : An) ((((Aj ((Df 1 2).1) (Frame.mk 1 0 ([97, 99, 109, 101] : An)) ((Bf ((Cv 2).1)).1) 5).2.1).getD 0 default).data) ([97, 99, 109, 101] : An)).1)) ((Bf ((Cv 2).1)).1) 5).1) (Frame.mk 2 0 ((Kg ([107] : An) ((((Aj ((Df 1 2).1) (Frame.mk 1 0 ([97, 99, 109, 101] : An)) ((Bf ((Cv 2).1)).1) 5).2.1).getD 0 default).data) ([97, 99, 109, 101] : An)).1)) ((Bf ((Cv 2).1)).1) 5).1.phase) = 3) else false) else false) else false) else false) else false) else false) else false) else false) else false) else false) else false)))))
end Go.Proofs.YtdnjanhdnibkfaaGreatDoor.Jd

namespace Go.Proofs.YtdnjanhdnibkfaaGreatDoor.Jd
open Go.Proofs.Tryz
open Go.Proofs
open Go.RowKit (Below)
set_option maxRecDepth 100000
set_option maxHeartbeats 8000000
set_option linter.unusedVariables false
set_option linter.unusedSimpArgs false
theorem W9 : Fh Tryz.prog 34 [(0, 3), (3, 1), (4, 1)] := ⟨_, fun w => runUnderlying34 w, fun w => by simp⟩
theorem AS2 : Fh Tryz.prog 50 [(0, 2), (2, 1), (3, 1), (4, 1), (5, 1), (6, 1), (7, 1)] := ⟨_, fun w => runUnderlying50 w, fun w => by simp⟩
theorem Jx : Ty Tryz.prog 50 8 104 (Value.agg [(vi 0), (vi 0), (vt ([] : An)), (vi 0), (vi 0), (vs none 0 0), (vs none 0 0), (vi 0)].toArray) := ⟨⟨Tryz.t50, by kernel_rfl, rfl, rfl, rfl⟩, rfl⟩
theorem uO (w : World) {t_1_rules_a : Option Addr} {t_1_rules_c : Nat} {t_1_creds_a : Option Addr} {t_1_creds_c : Nat} {t : (Ah × Int)} (h_t_1_rules : Sl w Lb 5 t_1_rules_a t.1.rules) (n_t_1_rules : t.1.rules.length ≤ 1000) (h_t_1_creds : Sl w Ip 4 t_1_creds_a t.1.creds) (n_t_1_creds : t.1.creds.length ≤ 1000) : Calls Tryz.prog 42 (List.toArray [(Value.agg [(vi t.1.handle.slot), (vi t.1.handle.gen), (vt t.1.name), (vi t.1.state), (vi t.1.version), (vs t_1_rules_a t.1.rules.length t_1_rules_c), (vs t_1_creds_a t.1.creds.length t_1_creds_c), (vi t.1.deadline), (vi t.2)].toArray)]) w fun e w2 => ∃ a1 : Option Addr, ∃ c1 : Nat, ∃ a2 : Option Addr, ∃ c2 : Nat, ∃ B1 : Av, ∃ B2 : Av, e = .returned (Value.agg [(vi t.1.handle.slot), (vi t.1.handle.gen), (vt t.1.name), (vi t.1.state), (vi t.1.version), (vs a1 t.1.rules.length c1), (vs a2 t.1.creds.length c2), (vi t.1.deadline)].toArray) ∧ Ej w w2 (B1 ++ B2) ∧ Bt Lb 5 84 a1 c1 B1 t.1.rules ∧ Bt Ip 4 112 a2 c2 B2 t.1.creds := by
 have hF := Is.refl t.1
 refine enter func42 ntmps42 (h := ?_)
 refine Z2 ?_
 refine Ak Ag z87 (k := fun r1 hr1 => ?_)
 refine Ak Ag eG (k := fun r2 hr2 => ?_)
 refine Jr ?_
 refine Eh mixed 10 [(true, 0), (true, 1), (true, 2), (true, 4), (true, 5), (true, 6), (false, 3), (true, 8), (true, 9), (false, 7)] z2 ?_
 refine Be (Al Hl) (k := ?_)
 refine Be (Al bZ) (k := ?_)
 refine Be (Bm isAgg47) (k := ?_)
 refine Be (Al Hl) (k := ?_)
 refine M8 ?_
 refine tC (Ac call91) (fun w1 hw1 => xV w1 (s := t.1.rules) (h_s := (Cl.of_base h_t_1_rules) w1 hw1) (n_s := Ng)) (k := ?_)
 rintro w1_1 e1_1 w2_1 hw1_1 ⟨a1_1, c1_1, B1_1, he_1, hf_1, ho1_1⟩
 refine ⟨_, _, _, he_1, hf_1, rfl, ?_⟩
 refine Be (Al Hl) (k := ?_)
 refine Be (Al bZ) (k := ?_)
 refine tC (Ac call92) (fun w1 hw1 => xW w1 (s := t.1.creds) (h_s := (Cl.of_base h_t_1_creds) w1 hw1) (n_s := Ng)) (k := ?_)
 rintro w1_2 e1_2 w2_2 hw1_2 ⟨a1_2, c1_2, B1_2, he_2, hf_2, ho1_2⟩
 refine ⟨_, _, _, he_2, hf_2, rfl, ?_⟩
 refine Mm ?_
 refine Ep (Bn (l' := [_, _, _, _, _, _, _, _, _]) sizeOf47) (k := ?_)
 refine Af (Al Hl) (k := ?_)
 refine Af (Al Wt) (k := ?_)
 refine Ep (Bn (l' := [_, _, _, _, _, _, _, _, _]) sizeOf48) (k := ?_)
 refine Od ?_
 refine Af (Al Hl) (k := ?_)
 refine O0 ?_
 refine pE ?_
 refine kY ?_
 refine Aa results42 (Bw.agg isAgg50 sizeOf50 rfl me rfl Bw.nil) (fun w1 hw1 => ?_)
 exact ⟨a1_1, c1_1, a1_2, c1_2, B1_1, B1_2, (rq hF), (Ax (L := (B1_1 ++ B1_2)) (hw1.perm (q0.trans (qd q0))) (nA rfl).symm), (by rw [hF.eq]; exact ho1_1), (by rw [hF.eq]; exact ho1_2)⟩

theorem AN7 (w : World) {r_Sg_a : Option Addr} {r_Sg_c : Nat} {r_Su_a : Option Addr} {r_Su_c : Nat} {r_Sf_a : Option Addr} {r_Sf_c : Nat} {r_l_a : Option Addr} {r_l_c : Nat} {r_l_t : List TA} {r : Bk} (h_r_Sg : Sl w eI 1 r_Sg_a r.slots.gens) (n_r_Sg : r.slots.gens.length ≤ 1000) (h_r_Su : Sl w eB 1 r_Su_a r.slots.used) (n_r_Su : r.slots.used.length ≤ 1000) (h_r_Sf : Sl w eI 1 r_Sf_a r.slots.free) (n_r_Sf : r.slots.free.length ≤ 1000) (h_r_l : Yz w Ef 8 DT r_l_a r.l r_l_t) (n_r_l : r.l.length ≤ 1000) (k_r_l : r.l.length ≤ r_l_c) (hsm : Fs r.l) : Calls Tryz.prog 74 (List.toArray [(Value.agg [(vs r_Sg_a r.slots.gens.length r_Sg_c), (vs r_Su_a r.slots.used.length r_Su_c), (vs r_Sf_a r.slots.free.length r_Sf_c), (vs r_l_a r.l.length r_l_c), (vi r.seq)].toArray)]) w fun e w2 => ∃ a1 : Option Addr, ∃ c1 : Nat, ∃ a2 : Option Addr, ∃ c2 : Nat, ∃ a3 : Option Addr, ∃ c3 : Nat, ∃ a4 : Option Addr, ∃ c4 : Nat, ∃ t4 : List TA, ∃ B : Av, e = .returned (Value.agg [(vs a1 ((Wa r).slots.gens.length) c1), (vs a2 ((Wa r).slots.used.length) c2), (vs a3 ((Wa r).slots.free.length) c3), (vs a4 ((Wa r).l.length) c4), (vi ((Wa r).seq))].toArray) ∧ Ej w w2 B ∧ Hd B eI 1 a1 (Wa r).slots.gens ∧ Hd B eB 1 a2 (Wa r).slots.used ∧ Hd B eI 1 a3 (Wa r).slots.free ∧ (Kr B Ef 8 DT a4 (Wa r).l t4 ∧ (Wa r).l.length ≤ c4) ∧ (Wa r).slots.gens.length ≤ 1000 ∧ (Wa r).slots.used.length ≤ 1000 ∧ (Wa r).slots.free.length ≤ 1000 ∧ (Wa r).l.length ≤ 1000 := by
 have hF := Is.refl (Wa r)
 refine Sq func74 ntmps74 (h := ?_)
 refine Z2 ?_
 refine Ak Ag mH (k := fun r1 hr1 => ?_)
 refine Ak Ag J5 (k := fun r2 hr2 => ?_)
 refine Od ?_
 refine Ak Ag (Cj (l := [_]) zeroValue32) (k := fun r3 hr3 => ?_)
 refine Jr ?_
 refine Se ?_
 refine Bq (args := [_]) (Ac call90) func90 ntmps90 ?_
 refine Z2 ?_
 refine Ak Ag mH (k := fun r4 hr4 => ?_)
 refine aE ?_
 refine Bd results90 z0 ?_
 refine Nj ?_
 refine Fx Ag rfl call147 func147 ntmps147 (fun l5 rD5 rr5 hl5 => ?_)
 refine fR ?_
 refine rY ?_
 refine wJ ?_
 refine Rh ?_
 refine yN (σ1 := Nat) (σ2 := Nat) (σ3 := List Ah) (σ4 := List TA) (σ5 := Option Addr) (σ6 := Nat) (σ7 := Av) (σ8 := Av) (fun n_3 x_1 x_2 x_2t x_2a x_2c x_2B x_2R => (x_2B ++ (x_2R ++ ((l5, Cr rr5 .ready none) :: ((rD5, Obj.deferred (some [])) :: ((r4, oc [(vs r_Sg_a r.slots.gens.length r_Sg_c), (vs r_Su_a r.slots.used.length r_Su_c), (vs r_Sf_a r.slots.free.length r_Sf_c), (vs r_l_a r.l.length r_l_c), (vi r.seq)] 34) :: ((r3, oc [(vs x_2a x_2.length x_2c)] 32) :: ((r2, oc [(vs none 0 0), (vs none 0 0), (vs none 0 0), (vs none 0 0), (vi 0)] 34) :: ((r1, oc [(vs r_Sg_a r.slots.gens.length r_Sg_c), (vs r_Su_a r.slots.used.length r_Su_c), (vs r_Sf_a r.slots.free.length r_Sf_c), (vs r_l_a r.l.length r_l_c), (vi r.seq)] 34) :: []))))))))) (fun n_3 x_1 x_2 x_2t x_2a x_2c x_2B x_2R => [(0, (Value.func (.yield l5) [].toArray [].toArray)), (1, (Value.pointer (some ⟨r4, 0, none⟩))), (6, (vs r_l_a r.l.length r_l_c)), (7, (vi ((r.l.length : Nat) : Int))), (8, (vi ((x_1 : Nat) : Int)))]) (fun n_3 x_1 x_2 x_2t x_2a x_2c x_2B x_2R => r.l.length - x_1 < n_3 ∧ Is (Tg r (r.l.length + 1) 0 []) (Tg r n_3 x_1 x_2) ∧ (Bt Ef 8 50 x_2a x_2c x_2B (List.zip x_2 x_2t) ∧ Dr x_2R DT x_2 x_2t) ∧ x_2.length ≤ x_1 ∧ x_1 ≤ r.l.length) (fun n_3 x_1 x_2 x_2t x_2a x_2c x_2B x_2R => n_3) (r.l.length + 1) 0 ([]) ([]) none 0 ([]) ([]) ?_ se z54 ?_
 ·exact ⟨Nat.lt_succ_self _, Is.refl _, ⟨Bt.nil, Dr.nil⟩, z7, z7⟩
 ·rintro (_ | n_3) x_1 x_2 x_2t x_2a x_2c x_2B x_2R ⟨hm5, hF4, ⟨hx_2, hdx_2⟩, hi6, hi7⟩
  ·omega
  refine Zy ?_
  refine Bi rfl (fun hq1 => ?_) (fun hq1 => ?_)
  rotate_left
  ·refine Cu ?_
   refine Ko ?_
   refine Gh (.inr rfl) results147 (qc (qc q0)) ?_
   refine aH ?_
   refine AF3 ?_
   refine Ak Ag J6 (k := fun r9 hr9 => ?_)
   refine sN ?_
   refine Jr ?_
   refine Eh mixed 14 [(true, 0), (true, 1), (true, 3), (true, 4), (true, 6), (true, 7), (true, 10), (true, 11), (true, 12), (false, 2), (false, 5), (false, 8), (true, 9), (true, 13)] z2 ?_
   refine vG ?_
   refine Be (Al Td) (k := ?_)
   refine Be (Bm isAgg29) (k := ?_)
   refine Be (Al Og) (k := ?_)
   refine Be rC (k := ?_)
   refine Be (Bm isAgg32) (k := ?_)
   refine Be (Al Oh) (k := ?_)
   refine Yr ?_
   refine tC (Ac call123) (fun w1 hw1 => Ze w1 (s := r.slots.gens) (h_s := (Cl.of_base h_r_Sg) w1 hw1) (n_s := by first | omega | (simp; done) | exact (hsm _ z3).1 | exact (hsm _ z3).2)) (k := ?_)
   rintro w1_5 e1_5 w2_5 hw1_5 ⟨a1_5, c1_5, B1_5, he_5, hf_5, ho1_5⟩
   refine ⟨_, _, _, he_5, hf_5, rfl, ?_⟩
   refine tC (Ac call124) (fun w1 hw1 => Zf w1 (s := r.slots.used) (h_s := (Cl.of_base h_r_Su) w1 hw1) (n_s := by first | omega | (simp; done) | exact (hsm _ z3).1 | exact (hsm _ z3).2)) (k := ?_)
   rintro w1_6 e1_6 w2_6 hw1_6 ⟨a1_6, c1_6, B1_6, he_6, hf_6, ho1_6⟩
   refine ⟨_, _, _, he_6, hf_6, rfl, ?_⟩
   refine tC (Ac call123) (fun w1 hw1 => Ze w1 (s := r.slots.free) (h_s := (Cl.of_base h_r_Sf) w1 hw1) (n_s := by first | omega | (simp; done) | exact (hsm _ z3).1 | exact (hsm _ z3).2)) (k := ?_)
   rintro w1_7 e1_7 w2_7 hw1_7 ⟨a1_7, c1_7, B1_7, he_7, hf_7, ho1_7⟩
   refine ⟨_, _, _, he_7, hf_7, rfl, ?_⟩
   refine Be z43 (k := ?_)
   refine Be (Cx (cs := [_, _, _, _, _]) zeroValue34 W9) (k := ?_)
   refine Mm ?_
   refine oN ?_
   refine Dq [rD5] (qc (qc (qc (qa (qa (qc (qc q0))))))) results74 z38 (fun w1 hw1 => ?_)
   exact ⟨a1_5, c1_5, a1_6, c1_6, a1_7, c1_7, x_2a, x_2c, x_2t, (B1_5 ++ (B1_6 ++ (B1_7 ++ (x_2B ++ x_2R)))), (rq (hF.rn2 (hF4.neg hq1))), (Ax (L := (B1_5 ++ (B1_6 ++ (B1_7 ++ (x_2B ++ x_2R))))) (hw1.perm (((((qd (qd (qd (qb (qb (qd q0)))))).trans (qd (qd (qd (qd (qb (qb q0))))))).trans (qd (qd q0))).trans (qd (qd (qd q0)))).trans (qd (qd (qd (qd q0)))))) (nA (nA (nA (nA rfl)))).symm), (by rw [(hF.rn2 (hF4.neg hq1)).eq]; exact (ho1_5.slb Ba)), (by rw [(hF.rn2 (hF4.neg hq1)).eq]; exact (ho1_6.slb Oa)), (by rw [(hF.rn2 (hF4.neg hq1)).eq]; exact (ho1_7.slb Ba)), (by rw [(hF.rn2 (hF4.neg hq1)).eq]; exact ⟨((Bt.nb (U := (x_2B ++ x_2R)) Ca hx_2 hdx_2 (hB := sh) (hR := sh)).mono sh), (by have h0 := hx_2.le'; rwa [Hf hdx_2.1] at h0)⟩), (rl (hF.rn2 (hF4.neg hq1))), (rl (hF.rn2 (hF4.neg hq1))), (rl (hF.rn2 (hF4.neg hq1))), (rl (hF.rn2 (hF4.neg hq1)))⟩
  refine Py ?_
  refine AU7 ?_
  have hcp2 := (h_r_l.2.2 x_1 z4).2.2.1
  have hcp3 := (h_r_l.2.2 x_1 z4).2.2.2
  refine AX0 ?_
  refine Ak Ag eG (k := fun r6 hr6 => ?_)
  refine AW1 ?_
  refine Z0 ?_
  refine Hp ?_
  refine O0 ?_
  refine AW2 ?_
  refine Ly (vs := [(vi ((x_1 : Nat) : Int)), (Value.agg [(vi ((r.l.getD x_1 default).handle.slot)), (vi ((r.l.getD x_1 default).handle.gen)), (vt ((r.l.getD x_1 default).name)), (vi ((r.l.getD x_1 default).state)), (vi ((r.l.getD x_1 default).version)), (vs ((r_l_t.getD x_1 default).ra) ((r.l.getD x_1 default).rules.length) ((r_l_t.getD x_1 default).rc)), (vs ((r_l_t.getD x_1 default).ca) ((r.l.getD x_1 default).creds.length) ((r_l_t.getD x_1 default).cc)), (vi ((r.l.getD x_1 default).deadline)), (vi r.seq)].toArray)]) hl5 (qa (qc (qc q0))) Dw ?_
  refine Cp ?_
  refine Ak Ag (Cj (l := [_, _, _, _, _, _, _, _, _]) zeroValue104) (k := fun r7 hr7 => ?_)
  refine AW5 ?_
  refine K2 ?_
  refine Fz _ _ (vp (qb (qb (qb q0))) (nA nE)) mixed 5 [(true, 0), (true, 1), (false, 2), (false, 3), (false, 4)] z2 ?_
  refine Be (Bm isAgg32) (k := ?_)
  refine Be (Ch isAgg104 sizeOf104) (k := ?_)
  refine tC (Ac call42) (fun w1 hw1 => uO w1 (t := ((r.l.getD x_1 default), r.seq)) (h_t_1_rules := (fun w hw => ((Hn.of_base Je h_r_l).at (m := x_1) z4 w hw).1) w1 hw1) (n_t_1_rules := by first | omega | (simp; done) | exact (hsm _ z3).1 | exact (hsm _ z3).2) (h_t_1_creds := (fun w hw => ((Hn.of_base Je h_r_l).at (m := x_1) z4 w hw).2.1) w1 hw1) (n_t_1_creds := by first | omega | (simp; done) | exact (hsm _ z3).1 | exact (hsm _ z3).2)) (k := ?_)
  rintro w1_4 e1_4 w2_4 hw1_4 ⟨a1_4, c1_4, a2_4, c2_4, B1_4, B2_4, he_4, hf_4, ho1_4, ho2_4⟩
  refine ⟨_, _, _, he_4, hf_4, (nA rfl).symm, ?_⟩
  refine Hg Ag z25 (k := fun r8 hr8 => ?_)
  refine De (List.zip (x_2 ++ ([(((r.l.getD x_1 default), r.seq).1)] : List Ah)) (x_2t ++ ([⟨a1_4, c1_4, a2_4, c2_4⟩] : List TA))) (List.zip_append hdx_2.1.symm).symm Jx underlying32 Ca hx_2 q0 (Bt.nj Ca (Bt.mk (xs := List.zip ([(((r.l.getD x_1 default), r.seq).1)] : List Ah) ([⟨a1_4, c1_4, a2_4, c2_4⟩] : List TA)) rfl rfl Ca) (Dr.one (B := (B1_4 ++ (B2_4 ++ []))) (D := DT) (fun w hw => ⟨(ho1_4.sl Hk (tQ hw)), (ho2_4.sl Ey (tQ hw)), ho1_4.le', ho2_4.le'⟩)) (hB := sh) (hR := sh)).sl ⟨by first | exact lb, by first | exact lb⟩ (n := x_2.length) (m := 1) (hn := (Hf hdx_2.1)) (hm := (Hf (Dr.one (B := (B1_4 ++ (B2_4 ++ []))) (D := DT) (fun w hw => ⟨(ho1_4.sl Hk (tQ hw)), (ho2_4.sl Ey (tQ hw)), ho1_4.le', ho2_4.le'⟩)).1)) (k := fun ax2 cx2 Bx2 hox2 => ?_)
  have hzl2 : (List.zip (x_2 ++ ([(((r.l.getD x_1 default), r.seq).1)] : List Ah)) (x_2t ++ ([⟨a1_4, c1_4, a2_4, c2_4⟩] : List TA))).length = (x_2 ++ ([(((r.l.getD x_1 default), r.seq).1)] : List Ah)).length := Hf (by rw [List.length_append, List.length_append, hdx_2.1, (Dr.one (B := (B1_4 ++ (B2_4 ++ []))) (D := DT) (fun w hw => ⟨(ho1_4.sl Hk (tQ hw)), (ho2_4.sl Ey (tQ hw)), ho1_4.le', ho2_4.le'⟩)).1])
  rw [hzl2]
  have hal2 : (x_2 ++ ([(((r.l.getD x_1 default), r.seq).1)] : List Ah)).length = x_2.length + 1 := List.length_append
  have hdp4 : Dr (x_2R ++ (B1_4 ++ (B2_4 ++ []))) DT (x_2 ++ ([(((r.l.getD x_1 default), r.seq).1)] : List Ah)) (x_2t ++ ([⟨a1_4, c1_4, a2_4, c2_4⟩] : List TA)) := Dr.append (hdx_2.mono sh) ((Dr.one (B := (B1_4 ++ (B2_4 ++ []))) (D := DT) (fun w hw => ⟨(ho1_4.sl Hk (tQ hw)), (ho2_4.sl Ey (tQ hw)), ho1_4.le', ho2_4.le'⟩)).mono sh)
  refine oY ?_
  refine Ep (Bn (l' := [_]) sizeOf32) (k := ?_)
  refine M2 ?_
  refine Fu (qc (qa (qc (qc q0)))) ?_
  refine Rf ?_
  refine Sh ?_
  refine Dt _ ((((((((((qa (qc (qa (qc (qc (qa (qa (qc (qa (qa (qa (qa q0)))))))))))).trans (qa (qa (qc (qa (qc (qc (qa (qa (qc (qa (qa (qa q0))))))))))))).trans (qa (qa (qa (qc (qa (qc (qc (qa (qa (qc (qa (qa q0))))))))))))).trans (qa (qa (qa (qa (qc (qa (qc (qc (qa (qa (qc (qa q0))))))))))))).trans (qa (qa (qa (qa (qa (qc (qa (qc (qc (qa (qa (qc q0))))))))))))).trans (qa (qa (qa (qa (qa q0)))))).trans (qb (qb (qb (qb (qb (qb (qd (qb (qd q0)))))))))).trans (qd (qb (qb (qb (qb (qb (qb (qd (qb q0)))))))))).trans (qd (qd (qb (qb (qb (qb (qb (qb (qd (qb (qb (qb q0))))))))))))).trans (qd (qd (qd (qb (qb (qb (qb (qb (qb q0)))))))))) ?_
  refine Cn _ (List.Sublist.append z37 (List.Sublist.append z37 (List.Sublist.append z37 (List.Sublist.append z37 z14)))) ?_
  exact yO n_3 (x_1 + 1) (x_2 ++ ([(((r.l.getD x_1 default), r.seq).1)] : List Ah)) (x_2t ++ ([⟨a1_4, c1_4, a2_4, c2_4⟩] : List TA)) ax2 cx2 Bx2 (x_2R ++ (B1_4 ++ B2_4)) ⟨by omega, (hF4.pos hq1), ⟨hox2, (hdp4.mono sh)⟩, z3, z3⟩ (Nat.lt_succ_self _) se z54

theorem X0 (w : World) {r_Sg_a : Option Addr} {r_Sg_c : Nat} {r_Su_a : Option Addr} {r_Su_c : Nat} {r_Sf_a : Option Addr} {r_Sf_c : Nat} {r_l_a : Option Addr} {r_l_c : Nat} {r_l_t : List TA} {r : Bk} (h_r_Sg : Sl w eI 1 r_Sg_a r.slots.gens) (n_r_Sg : r.slots.gens.length ≤ 1000) (h_r_Su : Sl w eB 1 r_Su_a r.slots.used) (n_r_Su : r.slots.used.length ≤ 1000) (h_r_Sf : Sl w eI 1 r_Sf_a r.slots.free) (n_r_Sf : r.slots.free.length ≤ 1000) (h_r_l : Yz w Ef 8 DT r_l_a r.l r_l_t) (n_r_l : r.l.length ≤ 1000) (k_r_l : r.l.length ≤ r_l_c) (hsm : Fs r.l) : Calls Tryz.prog 74 (List.toArray [(Value.agg [(vs r_Sg_a r.slots.gens.length r_Sg_c), (vs r_Su_a r.slots.used.length r_Su_c), (vs r_Sf_a r.slots.free.length r_Sf_c), (vs r_l_a r.l.length r_l_c), (vi r.seq)].toArray)]) w fun e w2 => ∃ a1 : Option Addr, ∃ c1 : Nat, ∃ a2 : Option Addr, ∃ c2 : Nat, ∃ a3 : Option Addr, ∃ c3 : Nat, ∃ a4 : Option Addr, ∃ c4 : Nat, ∃ t4 : List TA, ∃ B : Av, e = .returned (Value.agg [(vs a1 r.slots.gens.length c1), (vs a2 r.slots.used.length c2), (vs a3 r.slots.free.length c3), (vs a4 r.l.length c4), (vi r.seq)].toArray) ∧ Ej w w2 B ∧ Hd B eI 1 a1 r.slots.gens ∧ Hd B eB 1 a2 r.slots.used ∧ Hd B eI 1 a3 r.slots.free ∧ (Kr B Ef 8 DT a4 r.l t4 ∧ r.l.length ≤ c4) ∧ r.slots.gens.length ≤ 1000 ∧ r.slots.used.length ≤ 1000 ∧ r.slots.free.length ≤ 1000 ∧ r.l.length ≤ 1000 := by
 have h := AN7 w (r_Sg_a := r_Sg_a) (r_Sg_c := r_Sg_c) (r_Su_a := r_Su_a) (r_Su_c := r_Su_c) (r_Sf_a := r_Sf_a) (r_Sf_c := r_Sf_c) (r_l_a := r_l_a) (r_l_c := r_l_c) (r_l_t := r_l_t) (r := r) h_r_Sg n_r_Sg h_r_Su n_r_Su h_r_Sf n_r_Sf h_r_l n_r_l k_r_l hsm
 simp only [AN5] at h
 exact h

theorem uP (w : World) {r_Sg_a : Option Addr} {r_Sg_c : Nat} {r_Su_a : Option Addr} {r_Su_c : Nat} {r_Sf_a : Option Addr} {r_Sf_c : Nat} {r_l_a : Option Addr} {r_l_c : Nat} {r_l_t : List TA} {r : Bk} {name : An} (h_r_Sg : Sl w eI 1 r_Sg_a r.slots.gens) (n_r_Sg : r.slots.gens.length ≤ 1000) (h_r_Su : Sl w eB 1 r_Su_a r.slots.used) (n_r_Su : r.slots.used.length ≤ 1000) (h_r_Sf : Sl w eI 1 r_Sf_a r.slots.free) (n_r_Sf : r.slots.free.length ≤ 1000) (h_r_l : Yz w Ef 8 DT r_l_a r.l r_l_t) (n_r_l : r.l.length ≤ 1000) (k_r_l : r.l.length ≤ r_l_c) (hsm : Fs r.l) : Calls Tryz.prog 15 (List.toArray [(Value.agg [(vs r_Sg_a r.slots.gens.length r_Sg_c), (vs r_Su_a r.slots.used.length r_Su_c), (vs r_Sf_a r.slots.free.length r_Sf_c), (vs r_l_a r.l.length r_l_c), (vi r.seq)].toArray), (vt name)]) w fun e w2 => ∃ a1 : Option Addr, ∃ c1 : Nat, ∃ a2 : Option Addr, ∃ c2 : Nat, ∃ B1 : Av, ∃ B2 : Av, e = .returned (Value.tuple [(Value.agg [(vi ((Ce r name).1.handle.slot)), (vi ((Ce r name).1.handle.gen)), (vt ((Ce r name).1.name)), (vi ((Ce r name).1.state)), (vi ((Ce r name).1.version)), (vs a1 ((Ce r name).1.rules.length) c1), (vs a2 ((Ce r name).1.creds.length) c2), (vi ((Ce r name).1.deadline))].toArray), (Value.bool ((Ce r name).2))].toArray) ∧ Ej w w2 (B1 ++ B2) ∧ Bt Lb 5 84 a1 c1 B1 (Ce r name).1.rules ∧ Bt Ip 4 112 a2 c2 B2 (Ce r name).1.creds ∧ (Ce r name).1.rules.length ≤ 1000 ∧ (Ce r name).1.creds.length ≤ 1000 := by
 have hF := Is.refl (Ce r name)
 refine enter func15 ntmps15 (h := ?_)
 refine Z2 ?_
 refine Ak Ag mH (k := fun r1 hr1 => ?_)
 refine Ak Ag eG (k := fun r2 hr2 => ?_)
 refine Z1 ?_
 refine Se ?_
 refine Ck ?_
 refine Cy (Ac call41) (fun w1 hw1 => nM w1 (r := r) (name := name) (h_r_Sg := (Cl.of_base h_r_Sg) w1 hw1) (n_r_Sg := by first | omega | (simp; done) | exact (hsm _ z3).1 | exact (hsm _ z3).2) (h_r_Su := (Cl.of_base h_r_Su) w1 hw1) (n_r_Su := by first | omega | (simp; done) | exact (hsm _ z3).1 | exact (hsm _ z3).2) (h_r_Sf := (Cl.of_base h_r_Sf) w1 hw1) (n_r_Sf := by first | omega | (simp; done) | exact (hsm _ z3).1 | exact (hsm _ z3).2) (h_r_l := (Hn.of_base Je h_r_l).2 w1 hw1) (n_r_l := by first | omega | (simp; done) | exact (hsm _ z3).1 | exact (hsm _ z3).2) (k_r_l := k_r_l)) (k := ?_)
 refine Kf ?_
 refine D4 ?_
 refine Rf ?_
 refine Dl rfl (fun hq1 => ?_) (fun hq1 => ?_)
 ·refine Cb ?_
  refine Cp ?_
  refine Af (Cx (cs := [_, _, _, _, _, _, _, _]) zeroValue50 AS2) (k := ?_)
  refine pE ?_
  refine Rg ?_
  refine Aa results15 (Bw.agg isAgg50 sizeOf50 rfl me rfl z0) (fun w1 hw1 => ?_)
  exact ⟨none, 0, none, 0, [], [], (rq (hF.t hq1)), (hw1.fresh_out.sub Mo), (ro (hF.t hq1)), (ro (hF.t hq1)), (by rw [(hF.t hq1).eq]; first | omega | (simp; done) | exact (hsm _ z3).1 | exact (hsm _ z3).2 | (simp; done)), (by rw [(hF.t hq1).eq]; first | omega | (simp; done) | exact (hsm _ z3).1 | exact (hsm _ z3).2 | (simp; done))⟩
 have hfhq1 := W7 J8
 refine Yq ?_
 refine Eh mixed 9 [(true, 0), (true, 1), (true, 2), (true, 3), (true, 4), (true, 5), (true, 6), (true, 7), (false, 8)] z2 ?_
 refine Be (Al Qo) (k := ?_)
 refine Be (Bm isAgg32) (k := ?_)
 refine Fo ?_
 refine Be (Cz (n := r.l.length) runUnderlying32 sizeOf50 (((Jc r name).1).toNat) (Hn.of_base Je h_r_l).sl (Wo h_r_l.1 z4) (Hf h_r_l.1)) (k := ?_)
 have hcp2 := (h_r_l.2.2 (((Jc r name).1).toNat) z4).2.2.1
 have hcp3 := (h_r_l.2.2 (((Jc r name).1).toNat) z4).2.2.2
 refine Be (Gt isAgg50 sizeOf50 (((Jc r name).1).toNat) (Hn.of_base Je h_r_l).sl (Wo h_r_l.1 z4)) (k := ?_)
 refine Be (Al Oh) (k := ?_)
 refine Yr ?_
 refine Be (Cx (cs := [_, _, _, _, _, _, _, _, _]) zeroValue104 W6) (k := ?_)
 refine tC (Ac call42) (fun w1 hw1 => uO w1 (t := ((r.l.getD (((Jc r name).1).toNat) default), r.seq)) (h_t_1_rules := (fun w hw => ((Hn.of_base Je h_r_l).at (m := ((Jc r name).1).toNat) z4 w hw).1) w1 hw1) (n_t_1_rules := by first | omega | (simp; done) | exact (hsm _ z3).1 | exact (hsm _ z3).2) (h_t_1_creds := (fun w hw => ((Hn.of_base Je h_r_l).at (m := ((Jc r name).1).toNat) z4 w hw).2.1) w1 hw1) (n_t_1_creds := by first | omega | (simp; done) | exact (hsm _ z3).1 | exact (hsm _ z3).2)) (k := ?_)
 rintro w1_1 e1_1 w2_1 hw1_1 ⟨a1_1, c1_1, a2_1, c2_1, B1_1, B2_1, he_1, hf_1, ho1_1, ho2_1⟩
 refine ⟨_, _, _, he_1, hf_1, (nA rfl).symm, ?_⟩
 refine Mm ?_
 refine pE ?_
 refine Z4 ?_
 refine Aa results15 (Bw.agg isAgg50 sizeOf50 rfl me rfl z0) (fun w1 hw1 => ?_)
 exact ⟨a1_1, c1_1, a2_1, c2_1, B1_1, B2_1, (rq (hF.f hq1)), (Ax (L := (B1_1 ++ B2_1)) (hw1.perm (List.Perm.refl _)) (nA rfl).symm), (by rw [(hF.f hq1).eq]; exact ho1_1), (by rw [(hF.f hq1).eq]; exact ho2_1), (by rw [(hF.f hq1).eq]; first | omega | (simp; done) | exact (hsm _ z3).1 | exact (hsm _ z3).2 | (simp; done)), (by rw [(hF.f hq1).eq]; first | omega | (simp; done) | exact (hsm _ z3).1 | exact (hsm _ z3).2 | (simp; done))⟩

theorem AN8 (w : World) {n_ : Int} : Calls Tryz.prog 31 (List.toArray [(vi n_)]) w fun e w2 => ∃ a1 : Option Addr, ∃ c1 : Nat, ∃ a2 : Option Addr, ∃ c2 : Nat, ∃ a3 : Option Addr, ∃ c3 : Nat, ∃ a4 : Option Addr, ∃ c4 : Nat, ∃ t4 : List TA, ∃ B : Av, e = .returned (Value.tuple [(Value.agg [(vs a1 ((Cv n_).1.slots.gens.length) c1), (vs a2 ((Cv n_).1.slots.used.length) c2), (vs a3 ((Cv n_).1.slots.free.length) c3), (vs a4 ((Cv n_).1.l.length) c4), (vi ((Cv n_).1.seq))].toArray), (vi ((Cv n_).2))].toArray) ∧ Ej w w2 B ∧ Hd B eI 1 a1 (Cv n_).1.slots.gens ∧ Hd B eB 1 a2 (Cv n_).1.slots.used ∧ Hd B eI 1 a3 (Cv n_).1.slots.free ∧ (Kr B Ef 8 DT a4 (Cv n_).1.l t4 ∧ (Cv n_).1.l.length ≤ c4) ∧ (Cv n_).1.slots.gens.length ≤ 1000 ∧ (Cv n_).1.slots.used.length ≤ 1000 ∧ (Cv n_).1.slots.free.length ≤ 1000 ∧ (Cv n_).1.l.length ≤ 1000 := by
 have hF := Is.refl (Cv n_)
 refine enter func31 ntmps31 (h := ?_)
 refine Z2 ?_
 refine Ak Ag J5 (k := fun r1 hr1 => ?_)
 refine Hq ?_
 refine Kq (Ac call72) (fun w1 hw1 => AM7 w1 (n_ := n_)) (k := ?_)
 rintro w1_1 e1_1 w2_1 hw1_1 ⟨a1_1, c1_1, a2_1, c2_1, a3_1, c3_1, B_1, he_1, hf_1, hs1_1, hs2_1, hs3_1, hl1_1, hl2_1, hl3_1⟩
 refine ⟨_, _, he_1, hw1_1.fresh hf_1, ?_⟩
 refine Kf ?_
 refine Ak Ag J6 (k := fun r2 hr2 => ?_)
 refine sN ?_
 refine Kt ?_
 refine sM ?_
 refine Af (Cx (cs := [_, _, _, _, _]) zeroValue34 W9) (k := ?_)
 refine Ck ?_
 refine lR ?_
 refine Z4 ?_
 refine Aa results31 (Bw.agg isAgg34 sizeOf34 rfl me rfl z0) (fun w1 hw1 => ?_)
 exact ⟨a1_1, c1_1, a2_1, c2_1, a3_1, c3_1, none, 0, [], B_1, (rq hF), (Ax (L := B_1) (hw1.perm (qb q0)) rfl.symm), (by unfold Cv; exact (hs1_1.mono z20)), (by unfold Cv; exact (hs2_1.mono z20)), (by unfold Cv; exact (hs3_1.mono z20)), (by unfold Cv; exact ⟨Kr.nil, by first | (simp; done) | exact Nat.le_of_eq rfl⟩), (by unfold Cv; first | exact lb), (by unfold Cv; first | exact lb), (by unfold Cv; first | exact lb), (by unfold Cv; first | exact lb)⟩

end Go.Proofs.YtdnjanhdnibkfaaGreatDoor.Jd

namespace Go.Proofs.YtdnjanhdnibkfaaGreatDoor.Jd
open Go.Proofs.Tryz
open Go.Proofs
set_option maxRecDepth 100000
open Go.RowKit Go.Extern.Stop Go.Stop Go.Extern
set_option linter.unusedVariables false
set_option linter.unusedSimpArgs false
theorem BB0 (t : Value) (w : World) : Calls Tryz.prog 128 #[.nilIface, t] w fun e w' => e = .returned (.bool false) ∧ w' = w := by
  go_enter func128, ntmps128
  go_wp2
  go_ret
  exact ⟨rfl, rfl⟩
theorem X1 (w : World) {t : Value} : Ha Tryz.prog 128 [.nilIface, t] w (.bool false) :=
  (BB0 t w).mono fun e w' ⟨he, hw⟩ => ⟨he, hw ▸ Below.refl _ _⟩
end Go.Proofs.YtdnjanhdnibkfaaGreatDoor.Jd

namespace Go.Proofs.YtdnjanhdnibkfaaGreatDoor.Jd
open Go.Proofs.Tryz
open Go.Proofs
open Go.RowKit (Below)
set_option maxRecDepth 100000
set_option maxHeartbeats 8000000
set_option linter.unusedVariables false
set_option linter.unusedSimpArgs false
theorem H0 (w : World) (hG : Gl w) : Ha Tryz.prog 77 [Value.nilIface] w (vi 0) := by
 have hF := Is.refl 0
 refine enter func77 ntmps77 (h := ?_)
 refine Nk ?_
 refine Ak Ag (Cj (l := [_]) zeroValue221) (k := fun r1 hr1 => ?_)
 refine Jr ?_
 refine Z3 ?_
 refine Af (mW underlying223) (k := ?_)
 refine Cy (args := [Value.nilIface, (Value.iface 223 (Value.pointer (some ⟨r1, 0, none⟩)))]) (Ac call128) (fun w1 hw1 => X1 w1) (k := ?_)
 refine Z0 ?_
 refine Rk ?_
 refine Yp ?_
 refine Aa results77 z0 (fun w1 hw1 => ?_)
 exact ⟨(by rfl), hw1.ext_out⟩

end Go.Proofs.YtdnjanhdnibkfaaGreatDoor.Jd

namespace Go.Proofs.YtdnjanhdnibkfaaGreatDoor.Jd
open Go.Proofs.Tryz
open Go.Proofs
open Go.RowKit (Below)
set_option maxRecDepth 100000
set_option maxHeartbeats 8000000
set_option linter.unusedVariables false
set_option linter.unusedSimpArgs false


theorem nN (w : World) {n_ : Int} (hi : 0 ≤ n_ ∧ n_ ≤ 1000000) : Calls Tryz.prog 258 (List.toArray [(vs none 0 0), (vi n_)]) w fun e w2 => ∃ a1 : Option Addr, ∃ c1 : Nat, ∃ B1 : Av, e = .returned (vs a1 (([] : List (Ah × TA)).length) c1) ∧ Ej w w2 B1 ∧ Bt Ef 8 50 a1 c1 B1 ([] : List (Ah × TA)) := by
 have hF := Is.refl ([] : List (Ah × TA))
 refine enter func258 ntmps258 (h := ?_)
 refine Lj ?_
 refine Z9 ?_
 refine Bi rfl (fun hq1 => ?_) (fun hq1 => ?_)
 ·exfalso
  omega
 refine Yq ?_
 refine Hp ?_
 refine Af (R9 runUnderlying32) (k := ?_)
 refine Ck ?_
 refine wJ ?_
 refine Xi ?_
 refine Xi ?_
 refine Hq ?_
 refine Af Ln (k := ?_)
 refine Z0 ?_
 refine Bi rfl (fun hq2 => ?_) (fun hq2 => ?_)
 rotate_left
 ·refine Cg ?_
  refine Du ?_
  refine Vc ?_
  refine Aa results258 z0 (fun w1 hw1 => ?_)
  have hcan0 : ([] : List (Ah × TA)) = ([] : List (Ah × TA)) := by (first | rfl | simp)
  have hlen0 : 0 = ([] : List (Ah × TA)).length := by first | (rw [← hcan0]; done) | (rw [← hcan0]; first | rfl | (simp; done) | (simp only [List.length_append, List.length_take, List.length_drop, List.length_set, List.length_replicate, List.length_cons, List.length_nil, List.length_map, Di, Cw]; omega) | (simp; omega))
  exact ⟨none, 0, [], zY, (hw1.fresh_out.sub Mo), (hcan0 ▸ Bt.nil)⟩
 refine Sd ?_
 refine Af (R9 runUnderlying32) (k := ?_)
 have hl3 : (([] : List (Ah × TA)).take 0).length = 0 := by rw [List.length_take]; omega
 refine Af (Hb (([] : List (Ah × TA)).take 0).length runUnderlying32 (fun w => ⟨_, sizeOf50 w⟩) (hm := z3) (hi := z3)) (k := ?_)
 refine Ck ?_
 refine jU (i := (n_ - 0)) (n := (([] : List (Ah × TA)).take 0).length) (c := 0) (x0 := default) (xs := (([] : List (Ah × TA)).take 0)) (m := (n_ - 0).toNat) Jx underlying32 underlying3 Ca rfl (Cl.nilj.take 0) z4 z4 z4 ⟨by first | exact ix, by first | exact ix⟩ z3 (k := fun ax1 cx1 Bx1 hox1 => ?_)
 refine Ck ?_
 refine wJ ?_
 have hl4 : (((([] : List (Ah × TA)).take 0) ++ List.replicate ((n_ - 0).toNat) default).take 0).length = 0 := by rw [List.length_take]; omega
 have hl4c := hox1.le'
 refine Af (Hb (((([] : List (Ah × TA)).take 0) ++ List.replicate ((n_ - 0).toNat) default).take 0).length runUnderlying32 (fun w => ⟨_, sizeOf50 w⟩) (hm := z3) (hi := z3)) (k := ?_)
 refine Hq ?_
 refine Z4 ?_
 refine Aa results258 z0 (fun w1 hw1 => ?_)
 have hcan0 : (((([] : List (Ah × TA)).take 0) ++ List.replicate ((n_ - 0).toNat) default).take 0) = ([] : List (Ah × TA)) := by (first | rfl | simp)
 have hlen0 : (((([] : List (Ah × TA)).take 0) ++ List.replicate ((n_ - 0).toNat) default).take 0).length = ([] : List (Ah × TA)).length := by first | (rw [← hcan0]; done) | (rw [← hcan0]; first | rfl | (simp; done) | (simp only [List.length_append, List.length_take, List.length_drop, List.length_set, List.length_replicate, List.length_cons, List.length_nil, List.length_map, Di, Cw]; omega) | (simp; omega))
 exact ⟨ax1, cx1, Bx1, zY, (Ax (L := Bx1) (hw1.perm (List.Perm.refl _)) rfl.symm), (hcan0 ▸ (hox1.take Ca 0))⟩

theorem AN9 (w : World) {s0a : Option Addr} {s0n : Nat} {s0c : Nat} {s1a : Option Addr} {s1n : Nat} {s1c : Nat} {s2a : Option Addr} {s2n : Nat} {s2c : Nat} {q_ : Int} {l_a : Option Addr} {l_c : Nat} {l : List (Ah × TA)} {x : Ah × TA} (h_l : Sl w Ef 8 l_a l) (n_l : l.length ≤ 1000) (k_l : l.length ≤ l_c) : Calls Tryz.prog 182 (List.toArray [(Value.agg [(vs s0a s0n s0c), (vs s1a s1n s1c), (vs s2a s2n s2c), (vs l_a l.length l_c), (vi q_)].toArray), (Value.agg [(vi x.1.handle.slot), (vi x.1.handle.gen), (vt x.1.name), (vi x.1.state), (vi x.1.version), (vs x.2.ra x.1.rules.length x.2.rc), (vs x.2.ca x.1.creds.length x.2.cc), (vi x.1.deadline)].toArray)]) w fun e w2 => ∃ a1 : Option Addr, ∃ c1 : Nat, ∃ B1 : Av, e = .returned (Value.agg [(vs s0a s0n s0c), (vs s1a s1n s1c), (vs s2a s2n s2c), (vs a1 ((G9 l x).length) c1), (vi q_)].toArray) ∧ Ej w w2 B1 ∧ Bt Ef 8 50 a1 c1 B1 (G9 l x) := by
 have hF := Is.refl (G9 l x)
 refine enter func182 ntmps182 (h := ?_)
 refine Z2 ?_
 refine Ak Ag mH (k := fun r1 hr1 => ?_)
 refine Ak Ag (Lo (l := [_, _, _, _, _, _, _, _])) (k := fun r2 hr2 => ?_)
 refine Ak Ag J5 (k := fun r3 hr3 => ?_)
 refine Z0 ?_
 refine Xv ?_
 refine yI ?_
 refine Jj (σ1 := Nat) (σ2 := Nat) (fun n_2 at_1 => ((r3, oc [(vs none 0 0), (vs none 0 0), (vs none 0 0), (vs none 0 0), (vi 0)] 34) :: ((r2, oc [(vi x.1.handle.slot), (vi x.1.handle.gen), (vt x.1.name), (vi x.1.state), (vi x.1.version), (vs x.2.ra x.1.rules.length x.2.rc), (vs x.2.ca x.1.creds.length x.2.cc), (vi x.1.deadline)] 50) :: ((r1, oc [(vs s0a s0n s0c), (vs s1a s1n s1c), (vs s2a s2n s2c), (vs l_a l.length l_c), (vi q_)] 34) :: [])))) (fun n_2 at_1 => [(2, (Value.pointer (some ⟨r1, 0, none⟩))), (3, (Value.pointer (some ⟨r2, 0, none⟩))), (4, (Value.pointer (some ⟨r3, 0, none⟩))), (5, (vi ((at_1 : Nat) : Int)))]) (fun n_2 at_1 => l.length - at_1 < n_2 ∧ Is (Wu l x (l.length + 1) 0) (Wu l x n_2 at_1) ∧ at_1 ≤ l.length) (fun n_2 at_1 => n_2) (l.length + 1) 0 ?_ se (List.Perm.refl _) ?_
 ·exact ⟨Nat.lt_succ_self _, Is.refl _, z7⟩
 ·rintro (_ | n_2) at_1 ⟨hm4, hF3, hi5⟩
  ·omega
  refine Eu ?_
  refine Eu ?_
  refine Eh mixed 18 [(true, 0), (true, 1), (true, 2), (true, 3), (true, 4), (true, 5), (true, 6), (true, 7), (true, 8), (true, 9), (true, 10), (true, 11), (true, 12), (true, 13), (true, 14), (true, 15), (true, 16), (true, 17)] z2 ?_
  refine Fo ?_
  refine Be (Al Qo) (k := ?_)
  refine Be (Bm isAgg32) (k := ?_)
  refine Be (Fg runUnderlying32) (k := ?_)
  refine Be Ny (k := ?_)
  refine Fo ?_
  refine Dg 12 rfl (fun hq1 => ?_) (fun hq1 => ?_)
  rotate_left
  ·refine Ay 11 rfl ?_
   refine cR ?_
   refine kZ ?_
   refine Ia ?_
   refine Z2 ?_
   refine rY ?_
   refine Ck ?_
   have hld19 : (l.drop at_1).length = l.length - at_1 := List.length_drop
   refine BE8 ?_
   refine Z65 ?_
   refine Fo ?_
   refine Be (Fg runUnderlying32) (k := ?_)
   refine Be Ln (k := ?_)
   refine Fo ?_
   refine Dg 34 rfl (fun hq20 => ?_) (fun hq20 => ?_)
   rotate_left
   ·refine Ay 9 rfl ?_
    refine cR ?_
    refine Rk ?_
    refine Eu ?_
    refine C9 ?_
    refine Li ?_
    have hl31 : (l.take at_1).length = at_1 := by rw [List.length_take]; omega
    refine A2 ?_
    refine Fo ?_
    refine Hg Ag z25 (k := fun r14 hr14 => ?_)
    refine Hg Ag z41 (k := fun r15 hr15 => ?_)
    refine B3 ?_
    refine Lj ?_
    refine fN ?_
    refine Tx ?_
    refine Bi rfl (fun hq32 => ?_) (fun hq32 => ?_)
    ·exfalso
     omega
    refine Cg ?_
    refine fD ?_
    refine Tx ?_
    refine Bi rfl (fun hq33 => ?_) (fun hq33 => ?_)
    ·exfalso
     omega
    refine Cg ?_
    refine fE ?_
    refine Tx ?_
    refine Bi rfl (fun hq34 => ?_) (fun hq34 => ?_)
    ·exfalso
     omega
    refine vT ?_
    refine AC9 ?_
    rintro w1_7 e1_7 w2_7 hw1_7 ⟨a1_7, c1_7, B1_7, he_7, hf_7, ho1_7⟩
    refine ⟨_, _, he_7, hw1_7.fresh hf_7, ?_⟩
    refine Iv ?_
    refine fN ?_
    refine Tz ?_
    refine Bb (([] : List (Ah × TA)) ++ (l.take at_1)) rfl Jx underlying32 Ca ho1_7 q0 ((Cl.of_base h_l).take at_1) ⟨by first | omega | (simp only [List.length_append, List.length_nil, List.length_take, List.length_drop, List.length_cons]; omega), by first | omega | (simp only [List.length_append, List.length_nil, List.length_take, List.length_drop, List.length_cons]; omega)⟩ (n := ([] : List (Ah × TA)).length) (m := (l.take at_1).length) (k := fun ax16 cx16 Bx16 hox16 => ?_)
    have hal16 : (([] : List (Ah × TA)) ++ (l.take at_1)).length = ([] : List (Ah × TA)).length + (l.take at_1).length := by first | rfl | exact List.length_append | simp
    refine Mj ?_
    refine fD ?_
    refine Tz ?_
    refine Bb ((([] : List (Ah × TA)) ++ (l.take at_1)) ++ ([x] : List (Ah × TA))) rfl Jx underlying32 Ca hox16 q0 (Cl.lit (xs := ([x] : List (Ah × TA))) Ca) ⟨by first | omega | (simp only [List.length_append, List.length_nil, List.length_take, List.length_drop, List.length_cons]; omega), by first | omega | (simp only [List.length_append, List.length_nil, List.length_take, List.length_drop, List.length_cons]; omega)⟩ (n := (([] : List (Ah × TA)) ++ (l.take at_1)).length) (m := 1) (k := fun ax17 cx17 Bx17 hox17 => ?_)
    have hal17 : ((([] : List (Ah × TA)) ++ (l.take at_1)) ++ ([x] : List (Ah × TA))).length = (([] : List (Ah × TA)) ++ (l.take at_1)).length + 1 := by first | rfl | exact List.length_append | simp
    refine Mj ?_
    refine fE ?_
    refine Tz ?_
    refine Bb (((([] : List (Ah × TA)) ++ (l.take at_1)) ++ ([x] : List (Ah × TA))) ++ (l.drop at_1)) rfl Jx underlying32 Ca hox17 q0 (Cl.off eH at_1 l_c iE) ⟨by first | omega | (simp only [List.length_append, List.length_nil, List.length_take, List.length_drop, List.length_cons]; omega), by first | omega | (simp only [List.length_append, List.length_nil, List.length_take, List.length_drop, List.length_cons]; omega)⟩ (n := ((([] : List (Ah × TA)) ++ (l.take at_1)) ++ ([x] : List (Ah × TA))).length) (m := (l.drop at_1).length) (k := fun ax18 cx18 Bx18 hox18 => ?_)
    have hal18 : (((([] : List (Ah × TA)) ++ (l.take at_1)) ++ ([x] : List (Ah × TA))) ++ (l.drop at_1)).length = ((([] : List (Ah × TA)) ++ (l.take at_1)) ++ ([x] : List (Ah × TA))).length + (l.drop at_1).length := by first | rfl | exact List.length_append | simp
    refine Mj ?_
    refine iK ?_
    refine Vc ?_
    refine A4 ?_
    refine B7 ?_
    refine Z0 ?_
    refine Se ?_
    refine oN ?_
    refine Aa results182 z38 (fun w1 hw1 => ?_)
    exact ⟨ax18, cx18, Bx18, (rq (((((hF.rn1 (hF3.neg hq1)).neg hq20).neg hq32).neg hq33).neg hq34)), (Ax (L := Bx18) (hw1.perm (List.Perm.refl _)) rfl), (by rw [(((((hF.rn1 (hF3.neg hq1)).neg hq20).neg hq32).neg hq33).neg hq34).eq]; exact hox18)⟩
   refine Ht ?_
   refine BG2 ?_
   refine BG8 ?_
   refine Bu (Al Lc) (k := ?_)
   refine Bu (Al bS) (k := ?_)
   refine lC ?_
   refine oZ ?_
   refine Bi rfl (fun hq21 => ?_) (fun hq21 => ?_)
   rotate_left
   ·refine Cg ?_
    refine Du ?_
    refine Eu ?_
    refine C9 ?_
    refine Li ?_
    have hl27 : (l.take at_1).length = at_1 := by rw [List.length_take]; omega
    refine A2 ?_
    refine Fo ?_
    refine Hg Ag z25 (k := fun r12 hr12 => ?_)
    refine Hg Ag z41 (k := fun r13 hr13 => ?_)
    refine B3 ?_
    refine Lj ?_
    refine fN ?_
    refine Tx ?_
    refine Bi rfl (fun hq28 => ?_) (fun hq28 => ?_)
    ·exfalso
     omega
    refine Cg ?_
    refine fD ?_
    refine Tx ?_
    refine Bi rfl (fun hq29 => ?_) (fun hq29 => ?_)
    ·exfalso
     omega
    refine Cg ?_
    refine fE ?_
    refine Tx ?_
    refine Bi rfl (fun hq30 => ?_) (fun hq30 => ?_)
    ·exfalso
     omega
    refine vT ?_
    refine AC9 ?_
    rintro w1_6 e1_6 w2_6 hw1_6 ⟨a1_6, c1_6, B1_6, he_6, hf_6, ho1_6⟩
    refine ⟨_, _, he_6, hw1_6.fresh hf_6, ?_⟩
    refine Iv ?_
    refine fN ?_
    refine Tz ?_
    refine Bb (([] : List (Ah × TA)) ++ (l.take at_1)) rfl Jx underlying32 Ca ho1_6 q0 ((Cl.of_base h_l).take at_1) ⟨by first | omega | (simp only [List.length_append, List.length_nil, List.length_take, List.length_drop, List.length_cons]; omega), by first | omega | (simp only [List.length_append, List.length_nil, List.length_take, List.length_drop, List.length_cons]; omega)⟩ (n := ([] : List (Ah × TA)).length) (m := (l.take at_1).length) (k := fun ax13 cx13 Bx13 hox13 => ?_)
    have hal13 : (([] : List (Ah × TA)) ++ (l.take at_1)).length = ([] : List (Ah × TA)).length + (l.take at_1).length := by first | rfl | exact List.length_append | simp
    refine Mj ?_
    refine fD ?_
    refine Tz ?_
    refine Bb ((([] : List (Ah × TA)) ++ (l.take at_1)) ++ ([x] : List (Ah × TA))) rfl Jx underlying32 Ca hox13 q0 (Cl.lit (xs := ([x] : List (Ah × TA))) Ca) ⟨by first | omega | (simp only [List.length_append, List.length_nil, List.length_take, List.length_drop, List.length_cons]; omega), by first | omega | (simp only [List.length_append, List.length_nil, List.length_take, List.length_drop, List.length_cons]; omega)⟩ (n := (([] : List (Ah × TA)) ++ (l.take at_1)).length) (m := 1) (k := fun ax14 cx14 Bx14 hox14 => ?_)
    have hal14 : ((([] : List (Ah × TA)) ++ (l.take at_1)) ++ ([x] : List (Ah × TA))).length = (([] : List (Ah × TA)) ++ (l.take at_1)).length + 1 := by first | rfl | exact List.length_append | simp
    refine Mj ?_
    refine fE ?_
    refine Tz ?_
    refine Bb (((([] : List (Ah × TA)) ++ (l.take at_1)) ++ ([x] : List (Ah × TA))) ++ (l.drop at_1)) rfl Jx underlying32 Ca hox14 q0 (Cl.off eH at_1 l_c iE) ⟨by first | omega | (simp only [List.length_append, List.length_nil, List.length_take, List.length_drop, List.length_cons]; omega), by first | omega | (simp only [List.length_append, List.length_nil, List.length_take, List.length_drop, List.length_cons]; omega)⟩ (n := ((([] : List (Ah × TA)) ++ (l.take at_1)) ++ ([x] : List (Ah × TA))).length) (m := (l.drop at_1).length) (k := fun ax15 cx15 Bx15 hox15 => ?_)
    have hal15 : (((([] : List (Ah × TA)) ++ (l.take at_1)) ++ ([x] : List (Ah × TA))) ++ (l.drop at_1)).length = ((([] : List (Ah × TA)) ++ (l.take at_1)) ++ ([x] : List (Ah × TA))).length + (l.drop at_1).length := by first | rfl | exact List.length_append | simp
    refine Mj ?_
    refine iK ?_
    refine Vc ?_
    refine A4 ?_
    refine B7 ?_
    refine Z0 ?_
    refine Se ?_
    refine oN ?_
    refine Aa results182 z38 (fun w1 hw1 => ?_)
    exact ⟨ax15, cx15, Bx15, (rq ((((((hF.rn1 (hF3.neg hq1)).pos hq20).neg hq21).neg hq28).neg hq29).neg hq30)), (Ax (L := Bx15) (hw1.perm (List.Perm.refl _)) rfl), (by rw [((((((hF.rn1 (hF3.neg hq1)).pos hq20).neg hq21).neg hq28).neg hq29).neg hq30).eq]; exact hox15)⟩
   refine Jt ?_
   have hld22 : ((l.drop at_1).drop 1).length = (l.drop at_1).length - 1 := List.length_drop
   refine BE7 ?_
   refine C9 ?_
   refine Li ?_
   have hl23 : (l.take at_1).length = at_1 := by rw [List.length_take]; omega
   refine A2 ?_
   refine Fo ?_
   refine Hg Ag z25 (k := fun r10 hr10 => ?_)
   refine Hg Ag z41 (k := fun r11 hr11 => ?_)
   refine B3 ?_
   refine Lj ?_
   refine fN ?_
   refine Tx ?_
   refine Bi rfl (fun hq24 => ?_) (fun hq24 => ?_)
   ·exfalso
    omega
   refine Cg ?_
   refine fD ?_
   refine Tx ?_
   refine Bi rfl (fun hq25 => ?_) (fun hq25 => ?_)
   ·exfalso
    omega
   refine Cg ?_
   refine fE ?_
   refine Tx ?_
   refine Bi rfl (fun hq26 => ?_) (fun hq26 => ?_)
   ·exfalso
    omega
   refine vT ?_
   refine BG5 ?_
   rintro w1_5 e1_5 w2_5 hw1_5 ⟨a1_5, c1_5, B1_5, he_5, hf_5, ho1_5⟩
   refine ⟨_, _, he_5, hw1_5.fresh hf_5, ?_⟩
   refine Iv ?_
   refine fN ?_
   refine Tz ?_
   refine Bb (([] : List (Ah × TA)) ++ (l.take at_1)) rfl Jx underlying32 Ca ho1_5 q0 ((Cl.of_base h_l).take at_1) ⟨by first | omega | (simp only [List.length_append, List.length_nil, List.length_take, List.length_drop, List.length_cons]; omega), by first | omega | (simp only [List.length_append, List.length_nil, List.length_take, List.length_drop, List.length_cons]; omega)⟩ (n := ([] : List (Ah × TA)).length) (m := (l.take at_1).length) (k := fun ax10 cx10 Bx10 hox10 => ?_)
   have hal10 : (([] : List (Ah × TA)) ++ (l.take at_1)).length = ([] : List (Ah × TA)).length + (l.take at_1).length := by first | rfl | exact List.length_append | simp
   refine Mj ?_
   refine fD ?_
   refine Tz ?_
   refine Bb ((([] : List (Ah × TA)) ++ (l.take at_1)) ++ ([x] : List (Ah × TA))) rfl Jx underlying32 Ca hox10 q0 (Cl.lit (xs := ([x] : List (Ah × TA))) Ca) ⟨by first | omega | (simp only [List.length_append, List.length_nil, List.length_take, List.length_drop, List.length_cons]; omega), by first | omega | (simp only [List.length_append, List.length_nil, List.length_take, List.length_drop, List.length_cons]; omega)⟩ (n := (([] : List (Ah × TA)) ++ (l.take at_1)).length) (m := 1) (k := fun ax11 cx11 Bx11 hox11 => ?_)
   have hal11 : ((([] : List (Ah × TA)) ++ (l.take at_1)) ++ ([x] : List (Ah × TA))).length = (([] : List (Ah × TA)) ++ (l.take at_1)).length + 1 := by first | rfl | exact List.length_append | simp
   refine Mj ?_
   refine fE ?_
   refine Tz ?_
   refine Bb (((([] : List (Ah × TA)) ++ (l.take at_1)) ++ ([x] : List (Ah × TA))) ++ ((l.drop at_1).drop 1)) rfl Jx underlying32 Ca hox11 q0 (Cl.off (Cl.off eH at_1 l_c iE) 1 (l_c - at_1) iE) ⟨by first | omega | (simp only [List.length_append, List.length_nil, List.length_take, List.length_drop, List.length_cons]; omega), by first | omega | (simp only [List.length_append, List.length_nil, List.length_take, List.length_drop, List.length_cons]; omega)⟩ (n := ((([] : List (Ah × TA)) ++ (l.take at_1)) ++ ([x] : List (Ah × TA))).length) (m := ((l.drop at_1).drop 1).length) (k := fun ax12 cx12 Bx12 hox12 => ?_)
   have hal12 : (((([] : List (Ah × TA)) ++ (l.take at_1)) ++ ([x] : List (Ah × TA))) ++ ((l.drop at_1).drop 1)).length = ((([] : List (Ah × TA)) ++ (l.take at_1)) ++ ([x] : List (Ah × TA))).length + ((l.drop at_1).drop 1).length := by first | rfl | exact List.length_append | simp
   refine Mj ?_
   refine iK ?_
   refine Vc ?_
   refine A4 ?_
   refine B7 ?_
   refine Z0 ?_
   refine Se ?_
   refine oN ?_
   refine Aa results182 z38 (fun w1 hw1 => ?_)
   exact ⟨ax12, cx12, Bx12, (rq ((((((hF.rn1 (hF3.neg hq1)).pos hq20).pos hq21).neg hq24).neg hq25).neg hq26)), (Ax (L := Bx12) (hw1.perm (List.Perm.refl _)) rfl), (by rw [((((((hF.rn1 (hF3.neg hq1)).pos hq20).pos hq21).neg hq24).neg hq25).neg hq26).eq]; exact hox12)⟩
  refine Bu (Al Qo) (k := ?_)
  refine Bu (Bm isAgg32) (k := ?_)
  refine Ht ?_
  refine Bu (Cz (n := l.length) runUnderlying32 sizeOf50 at_1 eH (gD z4) Kc) (k := ?_)
  refine Bu (Yw Lc) (k := ?_)
  refine Bu (Yw bS) (k := ?_)
  refine Bu (Ci isAgg3 at_1 0 eH (gD z4)) (k := ?_)
  refine Bu (Al Lc) (k := ?_)
  refine Bu (Al bS) (k := ?_)
  refine lQ ?_
  refine Bu Ny (k := ?_)
  refine oZ ?_
  refine Bi rfl (fun hq2 => ?_) (fun hq2 => ?_)
  ·refine Cg ?_
   refine Du ?_
   refine Gr ?_
   refine Jt ?_
   refine Xe ?_
   refine Fr ?_
   exact Hu n_2 (at_1 + 1) ⟨by omega, ((hF3.pos hq1).pos hq2), z3⟩ (Nat.lt_succ_self _) se (List.Perm.refl _)
  refine Cu ?_
  refine Ia ?_
  refine Z2 ?_
  refine rY ?_
  refine Ck ?_
  have hld3 : (l.drop at_1).length = l.length - at_1 := List.length_drop
  refine BE8 ?_
  refine Z65 ?_
  refine Fo ?_
  refine Be (Fg runUnderlying32) (k := ?_)
  refine Be Ln (k := ?_)
  refine Fo ?_
  refine Dg 34 rfl (fun hq4 => ?_) (fun hq4 => ?_)
  rotate_left
  ·refine Ay 9 rfl ?_
   refine cR ?_
   refine Rk ?_
   refine Eu ?_
   refine C9 ?_
   refine Li ?_
   have hl15 : (l.take at_1).length = at_1 := by rw [List.length_take]; omega
   refine A2 ?_
   refine Fo ?_
   refine Hg Ag z25 (k := fun r8 hr8 => ?_)
   refine Hg Ag z41 (k := fun r9 hr9 => ?_)
   refine B3 ?_
   refine Lj ?_
   refine fN ?_
   refine Tx ?_
   refine Bi rfl (fun hq16 => ?_) (fun hq16 => ?_)
   ·exfalso
    omega
   refine Cg ?_
   refine fD ?_
   refine Tx ?_
   refine Bi rfl (fun hq17 => ?_) (fun hq17 => ?_)
   ·exfalso
    omega
   refine Cg ?_
   refine fE ?_
   refine Tx ?_
   refine Bi rfl (fun hq18 => ?_) (fun hq18 => ?_)
   ·exfalso
    omega
   refine vT ?_
   refine AC9 ?_
   rintro w1_4 e1_4 w2_4 hw1_4 ⟨a1_4, c1_4, B1_4, he_4, hf_4, ho1_4⟩
   refine ⟨_, _, he_4, hw1_4.fresh hf_4, ?_⟩
   refine Iv ?_
   refine fN ?_
   refine Tz ?_
   refine Bb (([] : List (Ah × TA)) ++ (l.take at_1)) rfl Jx underlying32 Ca ho1_4 q0 ((Cl.of_base h_l).take at_1) ⟨by first | omega | (simp only [List.length_append, List.length_nil, List.length_take, List.length_drop, List.length_cons]; omega), by first | omega | (simp only [List.length_append, List.length_nil, List.length_take, List.length_drop, List.length_cons]; omega)⟩ (n := ([] : List (Ah × TA)).length) (m := (l.take at_1).length) (k := fun ax7 cx7 Bx7 hox7 => ?_)
   have hal7 : (([] : List (Ah × TA)) ++ (l.take at_1)).length = ([] : List (Ah × TA)).length + (l.take at_1).length := by first | rfl | exact List.length_append | simp
   refine Mj ?_
   refine fD ?_
   refine Tz ?_
   refine Bb ((([] : List (Ah × TA)) ++ (l.take at_1)) ++ ([x] : List (Ah × TA))) rfl Jx underlying32 Ca hox7 q0 (Cl.lit (xs := ([x] : List (Ah × TA))) Ca) ⟨by first | omega | (simp only [List.length_append, List.length_nil, List.length_take, List.length_drop, List.length_cons]; omega), by first | omega | (simp only [List.length_append, List.length_nil, List.length_take, List.length_drop, List.length_cons]; omega)⟩ (n := (([] : List (Ah × TA)) ++ (l.take at_1)).length) (m := 1) (k := fun ax8 cx8 Bx8 hox8 => ?_)
   have hal8 : ((([] : List (Ah × TA)) ++ (l.take at_1)) ++ ([x] : List (Ah × TA))).length = (([] : List (Ah × TA)) ++ (l.take at_1)).length + 1 := by first | rfl | exact List.length_append | simp
   refine Mj ?_
   refine fE ?_
   refine Tz ?_
   refine Bb (((([] : List (Ah × TA)) ++ (l.take at_1)) ++ ([x] : List (Ah × TA))) ++ (l.drop at_1)) rfl Jx underlying32 Ca hox8 q0 (Cl.off eH at_1 l_c iE) ⟨by first | omega | (simp only [List.length_append, List.length_nil, List.length_take, List.length_drop, List.length_cons]; omega), by first | omega | (simp only [List.length_append, List.length_nil, List.length_take, List.length_drop, List.length_cons]; omega)⟩ (n := ((([] : List (Ah × TA)) ++ (l.take at_1)) ++ ([x] : List (Ah × TA))).length) (m := (l.drop at_1).length) (k := fun ax9 cx9 Bx9 hox9 => ?_)
   have hal9 : (((([] : List (Ah × TA)) ++ (l.take at_1)) ++ ([x] : List (Ah × TA))) ++ (l.drop at_1)).length = ((([] : List (Ah × TA)) ++ (l.take at_1)) ++ ([x] : List (Ah × TA))).length + (l.drop at_1).length := by first | rfl | exact List.length_append | simp
   refine Mj ?_
   refine iK ?_
   refine Vc ?_
   refine A4 ?_
   refine B7 ?_
   refine Z0 ?_
   refine Se ?_
   refine oN ?_
   refine Aa results182 z38 (fun w1 hw1 => ?_)
   exact ⟨ax9, cx9, Bx9, (rq (((((hF.rn1 ((hF3.pos hq1).neg hq2)).neg hq4).neg hq16).neg hq17).neg hq18)), (Ax (L := Bx9) (hw1.perm (List.Perm.refl _)) rfl), (by rw [(((((hF.rn1 ((hF3.pos hq1).neg hq2)).neg hq4).neg hq16).neg hq17).neg hq18).eq]; exact hox9)⟩
  refine Ht ?_
  refine BG2 ?_
  refine BG8 ?_
  refine Bu (Al Lc) (k := ?_)
  refine Bu (Al bS) (k := ?_)
  refine lC ?_
  refine oZ ?_
  refine Bi rfl (fun hq5 => ?_) (fun hq5 => ?_)
  rotate_left
  ·refine Cg ?_
   refine Du ?_
   refine Eu ?_
   refine C9 ?_
   refine Li ?_
   have hl11 : (l.take at_1).length = at_1 := by rw [List.length_take]; omega
   refine A2 ?_
   refine Fo ?_
   refine Hg Ag z25 (k := fun r6 hr6 => ?_)
   refine Hg Ag z41 (k := fun r7 hr7 => ?_)
   refine B3 ?_
   refine Lj ?_
   refine fN ?_
   refine Tx ?_
   refine Bi rfl (fun hq12 => ?_) (fun hq12 => ?_)
   ·exfalso
    omega
   refine Cg ?_
   refine fD ?_
   refine Tx ?_
   refine Bi rfl (fun hq13 => ?_) (fun hq13 => ?_)
   ·exfalso
    omega
   refine Cg ?_
   refine fE ?_
   refine Tx ?_
   refine Bi rfl (fun hq14 => ?_) (fun hq14 => ?_)
   ·exfalso
    omega
   refine vT ?_
   refine AC9 ?_
   rintro w1_3 e1_3 w2_3 hw1_3 ⟨a1_3, c1_3, B1_3, he_3, hf_3, ho1_3⟩
   refine ⟨_, _, he_3, hw1_3.fresh hf_3, ?_⟩
   refine Iv ?_
   refine fN ?_
   refine Tz ?_
   refine Bb (([] : List (Ah × TA)) ++ (l.take at_1)) rfl Jx underlying32 Ca ho1_3 q0 ((Cl.of_base h_l).take at_1) ⟨by first | omega | (simp only [List.length_append, List.length_nil, List.length_take, List.length_drop, List.length_cons]; omega), by first | omega | (simp only [List.length_append, List.length_nil, List.length_take, List.length_drop, List.length_cons]; omega)⟩ (n := ([] : List (Ah × TA)).length) (m := (l.take at_1).length) (k := fun ax4 cx4 Bx4 hox4 => ?_)
   have hal4 : (([] : List (Ah × TA)) ++ (l.take at_1)).length = ([] : List (Ah × TA)).length + (l.take at_1).length := by first | rfl | exact List.length_append | simp
   refine Mj ?_
   refine fD ?_
   refine Tz ?_
   refine Bb ((([] : List (Ah × TA)) ++ (l.take at_1)) ++ ([x] : List (Ah × TA))) rfl Jx underlying32 Ca hox4 q0 (Cl.lit (xs := ([x] : List (Ah × TA))) Ca) ⟨by first | omega | (simp only [List.length_append, List.length_nil, List.length_take, List.length_drop, List.length_cons]; omega), by first | omega | (simp only [List.length_append, List.length_nil, List.length_take, List.length_drop, List.length_cons]; omega)⟩ (n := (([] : List (Ah × TA)) ++ (l.take at_1)).length) (m := 1) (k := fun ax5 cx5 Bx5 hox5 => ?_)
   have hal5 : ((([] : List (Ah × TA)) ++ (l.take at_1)) ++ ([x] : List (Ah × TA))).length = (([] : List (Ah × TA)) ++ (l.take at_1)).length + 1 := by first | rfl | exact List.length_append | simp
   refine Mj ?_
   refine fE ?_
   refine Tz ?_
   refine Bb (((([] : List (Ah × TA)) ++ (l.take at_1)) ++ ([x] : List (Ah × TA))) ++ (l.drop at_1)) rfl Jx underlying32 Ca hox5 q0 (Cl.off eH at_1 l_c iE) ⟨by first | omega | (simp only [List.length_append, List.length_nil, List.length_take, List.length_drop, List.length_cons]; omega), by first | omega | (simp only [List.length_append, List.length_nil, List.length_take, List.length_drop, List.length_cons]; omega)⟩ (n := ((([] : List (Ah × TA)) ++ (l.take at_1)) ++ ([x] : List (Ah × TA))).length) (m := (l.drop at_1).length) (k := fun ax6 cx6 Bx6 hox6 => ?_)
   have hal6 : (((([] : List (Ah × TA)) ++ (l.take at_1)) ++ ([x] : List (Ah × TA))) ++ (l.drop at_1)).length = ((([] : List (Ah × TA)) ++ (l.take at_1)) ++ ([x] : List (Ah × TA))).length + (l.drop at_1).length := by first | rfl | exact List.length_append | simp
   refine Mj ?_
   refine iK ?_
   refine Vc ?_
   refine A4 ?_
   refine B7 ?_
   refine Z0 ?_
   refine Se ?_
   refine oN ?_
   refine Aa results182 z38 (fun w1 hw1 => ?_)
   exact ⟨ax6, cx6, Bx6, (rq ((((((hF.rn1 ((hF3.pos hq1).neg hq2)).pos hq4).neg hq5).neg hq12).neg hq13).neg hq14)), (Ax (L := Bx6) (hw1.perm (List.Perm.refl _)) rfl), (by rw [((((((hF.rn1 ((hF3.pos hq1).neg hq2)).pos hq4).neg hq5).neg hq12).neg hq13).neg hq14).eq]; exact hox6)⟩
  refine Jt ?_
  have hld6 : ((l.drop at_1).drop 1).length = (l.drop at_1).length - 1 := List.length_drop
  refine BE7 ?_
  refine C9 ?_
  refine Li ?_
  have hl7 : (l.take at_1).length = at_1 := by rw [List.length_take]; omega
  refine A2 ?_
  refine Fo ?_
  refine Hg Ag z25 (k := fun r4 hr4 => ?_)
  refine Hg Ag z41 (k := fun r5 hr5 => ?_)
  refine B3 ?_
  refine Lj ?_
  refine fN ?_
  refine Tx ?_
  refine Bi rfl (fun hq8 => ?_) (fun hq8 => ?_)
  ·exfalso
   omega
  refine Cg ?_
  refine fD ?_
  refine Tx ?_
  refine Bi rfl (fun hq9 => ?_) (fun hq9 => ?_)
  ·exfalso
   omega
  refine Cg ?_
  refine fE ?_
  refine Tx ?_
  refine Bi rfl (fun hq10 => ?_) (fun hq10 => ?_)
  ·exfalso
   omega
  refine vT ?_
  refine BG5 ?_
  rintro w1_2 e1_2 w2_2 hw1_2 ⟨a1_2, c1_2, B1_2, he_2, hf_2, ho1_2⟩
  refine ⟨_, _, he_2, hw1_2.fresh hf_2, ?_⟩
  refine Iv ?_
  refine fN ?_
  refine Tz ?_
  refine Bb (([] : List (Ah × TA)) ++ (l.take at_1)) rfl Jx underlying32 Ca ho1_2 q0 ((Cl.of_base h_l).take at_1) ⟨by first | omega | (simp only [List.length_append, List.length_nil, List.length_take, List.length_drop, List.length_cons]; omega), by first | omega | (simp only [List.length_append, List.length_nil, List.length_take, List.length_drop, List.length_cons]; omega)⟩ (n := ([] : List (Ah × TA)).length) (m := (l.take at_1).length) (k := fun ax1 cx1 Bx1 hox1 => ?_)
  have hal1 : (([] : List (Ah × TA)) ++ (l.take at_1)).length = ([] : List (Ah × TA)).length + (l.take at_1).length := by first | rfl | exact List.length_append | simp
  refine Mj ?_
  refine fD ?_
  refine Tz ?_
  refine Bb ((([] : List (Ah × TA)) ++ (l.take at_1)) ++ ([x] : List (Ah × TA))) rfl Jx underlying32 Ca hox1 q0 (Cl.lit (xs := ([x] : List (Ah × TA))) Ca) ⟨by first | omega | (simp only [List.length_append, List.length_nil, List.length_take, List.length_drop, List.length_cons]; omega), by first | omega | (simp only [List.length_append, List.length_nil, List.length_take, List.length_drop, List.length_cons]; omega)⟩ (n := (([] : List (Ah × TA)) ++ (l.take at_1)).length) (m := 1) (k := fun ax2 cx2 Bx2 hox2 => ?_)
  have hal2 : ((([] : List (Ah × TA)) ++ (l.take at_1)) ++ ([x] : List (Ah × TA))).length = (([] : List (Ah × TA)) ++ (l.take at_1)).length + 1 := by first | rfl | exact List.length_append | simp
  refine Mj ?_
  refine fE ?_
  refine Tz ?_
  refine Bb (((([] : List (Ah × TA)) ++ (l.take at_1)) ++ ([x] : List (Ah × TA))) ++ ((l.drop at_1).drop 1)) rfl Jx underlying32 Ca hox2 q0 (Cl.off (Cl.off eH at_1 l_c iE) 1 (l_c - at_1) iE) ⟨by first | omega | (simp only [List.length_append, List.length_nil, List.length_take, List.length_drop, List.length_cons]; omega), by first | omega | (simp only [List.length_append, List.length_nil, List.length_take, List.length_drop, List.length_cons]; omega)⟩ (n := ((([] : List (Ah × TA)) ++ (l.take at_1)) ++ ([x] : List (Ah × TA))).length) (m := ((l.drop at_1).drop 1).length) (k := fun ax3 cx3 Bx3 hox3 => ?_)
  have hal3 : (((([] : List (Ah × TA)) ++ (l.take at_1)) ++ ([x] : List (Ah × TA))) ++ ((l.drop at_1).drop 1)).length = ((([] : List (Ah × TA)) ++ (l.take at_1)) ++ ([x] : List (Ah × TA))).length + ((l.drop at_1).drop 1).length := by first | rfl | exact List.length_append | simp
  refine Mj ?_
  refine iK ?_
  refine Vc ?_
  refine A4 ?_
  refine B7 ?_
  refine Z0 ?_
  refine Se ?_
  refine oN ?_
  refine Aa results182 z38 (fun w1 hw1 => ?_)
  exact ⟨ax3, cx3, Bx3, (rq ((((((hF.rn1 ((hF3.pos hq1).neg hq2)).pos hq4).pos hq5).neg hq8).neg hq9).neg hq10)), (Ax (L := Bx3) (hw1.perm (List.Perm.refl _)) rfl), (by rw [((((((hF.rn1 ((hF3.pos hq1).neg hq2)).pos hq4).pos hq5).neg hq8).neg hq9).neg hq10).eq]; exact hox3)⟩

end Go.Proofs.YtdnjanhdnibkfaaGreatDoor.Jd

namespace Go.Proofs.YtdnjanhdnibkfaaGreatDoor.Jd
open Go.Proofs.Tryz
set_option linter.unusedVariables false
set_option linter.unusedSimpArgs false
set_option maxRecDepth 10000
theorem H3 : Fc 3 = [1, 2, 3, 4, 5, 6, 7, 8, 9, 10] := by decide
theorem H4 : Fc 2 = [2, 3, 4, 8, 9, 10] := by decide
theorem H5 : Fc 1 = [9, 10] := by decide
theorem H6 {n : Int} (h3 : n ≠ 3) (h2 : n ≠ 2) (h1 : n ≠ 1) : Fc n = [] := by
  have : Pq n = 0 := by unfold Pq; rw [if_neg h3, if_neg h2, if_neg h1]
  unfold Fc
  rw [this]
  decide
theorem cA (n v : Int) : ∀ f i, (Fc n).length < i + f → i ≤ (Fc n).length → (Fe (Rv n v f i) (fun r => r) (fun _ => false) = true ↔ v ∈ (Fc n).drop i)
  | 0, i, h1, h2 => by omega
  | f + 1, i, h1, h2 => by
    unfold Rv
    by_cases hi : i < (Fc n).length
    · rw [if_pos z3, Hx hi]
      by_cases hv : (Fc n).getD i default = v
      · rw [if_pos hv, hv]; simp [Fe]
      · rw [if_neg hv, cA n v f (i + 1) z3 z3, List.mem_cons]
        exact ⟨.inr, fun h => h.resolve_left fun e => hv e.symm⟩
    · rw [if_neg z3, List.drop_eq_nil_of_le z3]; simp [Fe]
theorem H7 (n v : Int) : mZ n v = true ↔ v ∈ Fc n := cA n v _ 0 z3 z3
theorem AO0 {n v : Int} (h : mZ n v = true) : 1 ≤ v ∧ v ≤ 10 := by
  rw [H7] at h
  by_cases h3 : n = 3
  · subst h3; rw [H3] at h; simp at h; omega
  by_cases h2 : n = 2
  · subst h2; rw [H4] at h; simp at h; omega
  by_cases h1 : n = 1
  · subst h1; rw [H5] at h; simp at h; omega
  rw [H6 h3 h2 h1] at h; cases h
/-- What must be of a tenant in a registry of a Seq. -/
structure nO (seq : Int) (t : Ah) : Prop where
  name : Tb t.name = true
  version : 1 ≤ t.version ∧ t.version ≤ seq
  state : 1 ≤ t.state ∧ t.state ≤ 3
  deadline : 0 ≤ t.deadline ∧ t.deadline ≤ 1000000000000
  drains : t.deadline = 0 ∨ t.state = 3
  rules : Jw t.rules = true
  creds : Ps t.creds = true
/-- Which registries are right. -/
structure BB1 (r : Bk) : Prop where
  slots : Ns r.slots = true
  seq : 0 ≤ r.seq ∧ r.seq ≤ 1000000000000
  hs : r.l.map Ah.handle = Xl r.slots
  names : (r.l.map Ah.name).Nodup
  ok : ∀ t ∈ r.l, nO r.seq t
theorem nP {seq : Int} {t : Ah} : nO seq t ↔ Kh (t, seq) = true ∧ Ki (t, seq) = true ∧ Pt (t, seq) = true := by
  unfold Kh Ki Pt
  constructor
  · rintro ⟨h1, h2, h3, h4, h5, h6, h7⟩
    refine ⟨?_, ?_, ?_⟩
    · rw [if_pos h2.1]; simpa using h2.2
    · simp only [h3.1, h3.2, h4.1, h4.2, if_true]
      split
      · rfl
      · simpa using h5.resolve_left z53
    · simp only [h1, h6, h7, if_true]
  · rintro ⟨h1, h2, h3⟩
    simp only at h1 h2 h3
    have a1 : 1 ≤ t.version ∧ t.version ≤ seq := by
      split at h1
      · exact ⟨by assumption, by simpa using h1⟩
      · cases h1
    have a2 : (1 ≤ t.state ∧ t.state ≤ 3) ∧ (0 ≤ t.deadline ∧ t.deadline ≤ 1000000000000) ∧ (t.deadline = 0 ∨ t.state = 3) := by
      repeat' split at h2
      all_goals first | (cases h2; done) | skip
      · exact ⟨⟨by assumption, by assumption⟩, ⟨by assumption, by assumption⟩, .inl z53⟩
      · exact ⟨⟨by assumption, by assumption⟩, ⟨by assumption, by assumption⟩, .inr (by simpa using h2)⟩
    have a3 : Tb t.name = true ∧ Jw t.rules = true ∧ Ps t.creds = true := by
      repeat' split at h3
      all_goals first | (cases h3; done) | skip
      exact ⟨by assumption, by assumption, h3⟩
    exact ⟨a3.1, a1, a2.1, a2.2.1, a2.2.2, a3.2.1, a3.2.2⟩
theorem Rd (r : Bk) : ∀ n i (acc : List An), r.l.length < i + n → i ≤ r.l.length → (Gu (Pa r n i acc) (fun r => r) (fun _ _ => true) = true ↔ (∀ k, i ≤ k → k < r.l.length → (r.l.getD k default).handle = (Xl r.slots).getD k default ∧ nO r.seq (r.l.getD k default)) ∧ (∀ t ∈ r.l.drop i, t.name ∉ acc) ∧ ((r.l.drop i).map Ah.name).Nodup)
  | 0, i, acc, h1, h2 => by omega
  | n + 1, i, acc, h1, h2 => by
    unfold Pa
    by_cases hi : i < r.l.length
    · rw [if_pos z3, Hx hi]
      generalize ht : r.l.getD i default = t
      generalize hh : (Xl r.slots).getD i default = h
      have hbad : ¬ (t.handle = h ∧ nO r.seq t) → ¬ (∀ k, i ≤ k → k < r.l.length → (r.l.getD k default).handle = (Xl r.slots).getD k default ∧ nO r.seq (r.l.getD k default)) := fun hn ha => hn (by
        have := ha i (Nat.le_refl _) hi
        rwa [ht, hh] at this)
      by_cases hs : t.handle.slot = h.slot ∧ t.handle.gen = h.gen
      · have he : t.handle = h := by
          obtain ⟨e1, e2⟩ := hs
          cases hth : t.handle; cases h; simp_all
        rw [if_neg (by simpa using hs)]
        by_cases hm : t.name ∈ acc
        · rw [if_pos hm]
          simp only [Gu]
          exact ⟨nofun, fun ⟨_, h3, _⟩ => absurd hm (h3 t List.mem_cons_self)⟩
        · rw [if_neg hm]
          by_cases hT : nO r.seq t
          · obtain ⟨c1, c2, c3⟩ := nP.1 hT
            rw [c1, c2, c3]
            simp only [Bool.not_true, Bool.false_eq_true, if_false]
            rw [Rd r n (i + 1) _ z3 z3, List.map_cons, List.nodup_cons]
            constructor
            · rintro ⟨g1, g2, g3⟩
              refine ⟨fun k hk hl => ?_, fun u hu => ?_, ?_, g3⟩
              · by_cases e : k = i
                · subst e; rw [ht, hh]; exact ⟨he, hT⟩
                · exact g1 k z3 hl
              · rcases List.mem_cons.1 hu with rfl | hu
                · exact hm
                · exact fun hc => g2 u hu (List.mem_append_left _ hc)
              · intro hc
                obtain ⟨u, hu, e⟩ := List.mem_map.1 hc
                exact g2 u hu (List.mem_append_right _ (by simp [e]))
            · rintro ⟨g1, g2, g3, g4⟩
              refine ⟨fun k hk hl => g1 k z3 hl, fun u hu hc => ?_, g4⟩
              rcases List.mem_append.1 hc with hc | hc
              · exact g2 u (List.mem_cons_of_mem _ hu) hc
              · exact g3 (List.mem_map.2 ⟨u, hu, by simpa using hc⟩)
          · have hb := hbad fun h => hT h.2
            have hx : ¬ (Kh (t, r.seq) = true ∧ Ki (t, r.seq) = true ∧ Pt (t, r.seq) = true) := fun h => hT (nP.2 h)
            cases c1 : Kh (t, r.seq)
            · simp only [Bool.not_false, if_true, Gu]; exact ⟨nofun, fun h => absurd h.1 hb⟩
            cases c2 : Ki (t, r.seq)
            · simp only [Bool.not_false, Bool.not_true, Bool.false_eq_true, if_true, if_false, Gu]; exact ⟨nofun, fun h => absurd h.1 hb⟩
            cases c3 : Pt (t, r.seq)
            · simp only [Bool.not_false, Bool.not_true, Bool.false_eq_true, if_true, if_false, Gu]; exact ⟨nofun, fun h => absurd h.1 hb⟩
            exact absurd ⟨c1, c2, c3⟩ hx
      · rw [if_pos (by simpa using hs)]
        simp only [Gu]
        exact ⟨nofun, fun hc => absurd hc.1 (hbad fun h2 => hs (by rw [h2.1]; exact ⟨rfl, rfl⟩))⟩
    · rw [if_neg z3, List.drop_eq_nil_of_le z3]
      simp only [Gu, List.map_nil, List.nodup_nil, and_true, List.not_mem_nil, false_implies, implies_true, true_and]
      exact ⟨fun _ k h3 h4 => by omega, fun _ => trivial⟩
theorem nR {α β : Type} [Inhabited α] [Inhabited β] {f : α → β} {xs : List α} {ys : List β} (hl : ys.length = xs.length) : (∀ k, k < xs.length → f (xs.getD k default) = ys.getD k default) ↔ xs.map f = ys := by
  constructor
  · intro h
    refine List.ext_getElem (by simp [hl]) fun k h1 h2 => ?_
    have := h k (by simpa using h1)
    simpa [List.getD, show k < xs.length by simpa using h1, h2] using this
  · rintro rfl k hk
    simp [List.getD, hk]
theorem xZ {r : Bk} : Zb r = true ↔ BB1 r := by
  unfold Zb
  constructor
  · intro h
    split at h
    · cases h
    rename_i h1
    split at h
    · cases h
    split at h
    · cases h
    split at h
    · cases h
    rename_i h2 h3 h4
    obtain ⟨g1, _, g3⟩ := (Rd r _ 0 [] z3 z3).1 h
    refine ⟨by simpa using h1, ⟨by omega, by omega⟩, (nR z3).1 fun k hk => (g1 k z3 hk).1, by simpa using g3, fun t ht => ?_⟩
    obtain ⟨k, hk, rfl⟩ := List.getElem_of_mem ht
    have := (g1 k z3 hk).2
    simpa [List.getD, hk] using this
  · rintro ⟨h1, h2, h3, h4, h5⟩
    have hl : (Xl r.slots).length = r.l.length := by rw [← h3]; simp
    rw [h1, if_neg Ij, if_neg z3, if_neg z3, if_neg z3]
    refine (Rd r _ 0 [] z3 z3).2 ⟨fun k _ hk => ⟨(nR hl).2 h3 k hk, ?_⟩, fun t _ => by simp, by simpa using h4⟩
    refine h5 _ ?_
    rw [List.getD_eq_getElem?_getD, List.getElem?_eq_getElem hk]; exact List.getElem_mem hk
theorem X2 {r : Bk} (h : Zb r = true) : r.l.length ≤ 64 ∧ r.slots.gens.length ≤ 64 ∧ r.slots.used.length ≤ 64 ∧ r.slots.free.length ≤ 64 ∧ 0 ≤ r.seq ∧ r.seq ≤ 1000000000000 := by
  have h' := xZ.1 h
  have e := congrArg List.length h'.hs
  rw [List.length_map] at e
  have := U5 r.slots
  have h3 := bR h'.slots
  exact ⟨by omega, by omega, by omega, by omega, h'.seq⟩
end Go.Proofs.YtdnjanhdnibkfaaGreatDoor.Jd

namespace Go.Proofs.YtdnjanhdnibkfaaGreatDoor.Jd
open Go.Proofs.Tryz
open Go.Proofs
open Go.RowKit (Below)
set_option maxRecDepth 100000
set_option maxHeartbeats 8000000
set_option linter.unusedVariables false
set_option linter.unusedSimpArgs false
theorem AO1 : Bl Tryz.prog 76 0 0 := fun r k w => by simp [Instr.fieldAt, Instr.sureAddr, fieldPlace, Bc]
theorem zP : Bl Tryz.prog 86 0 0 := fun r k w => by simp [Instr.fieldAt, Instr.sureAddr, fieldPlace, Bc]
theorem qP : Bl Tryz.prog 86 1 1 := fun r k w => by simp [Instr.fieldAt, Instr.sureAddr, fieldPlace, Bc]
theorem AO2 : Bl Tryz.prog 86 5 9 := fun r k w => by simp [Instr.fieldAt, Instr.sureAddr, fieldPlace, Bc]
theorem AO3 : Bl Tryz.prog 86 6 10 := fun r k w => by simp [Instr.fieldAt, Instr.sureAddr, fieldPlace, Bc]
theorem AS3 : Fh Tryz.prog 76 [(0, 1), (1, 1), (2, 2), (4, 1), (5, 1)] := ⟨_, fun w => runUnderlying76 w, fun w => by simp⟩
theorem AO4 (w : World) {s0a : Option Addr} {s0n : Nat} {s0c : Nat} {s1a : Option Addr} {s1n : Nat} {s1c : Nat} {s2a : Option Addr} {s2n : Nat} {s2c : Nat} {q_ : Int} {l_a : Option Addr} {l_c : Nat} {xs : List Ah} {ts : List TA} {x : Ah} {v : TA} (h : Yz w Ef 8 DT l_a xs ts) (n : xs.length ≤ 1000) (k : xs.length ≤ l_c) :
  Calls Tryz.prog 182 (List.toArray [(Value.agg [(vs s0a s0n s0c), (vs s1a s1n s1c), (vs s2a s2n s2c), (vs l_a xs.length l_c), (vi q_)].toArray), (Value.agg [(vi x.handle.slot), (vi x.handle.gen), (vt x.name), (vi x.state), (vi x.version), (vs v.ra x.rules.length v.rc), (vs v.ca x.creds.length v.cc), (vi x.deadline)].toArray)]) w fun e w2 => ∃ a1 : Option Addr, ∃ c1 : Nat, ∃ B1 : Av, e = .returned (Value.agg [(vs s0a s0n s0c), (vs s1a s1n s1c), (vs s2a s2n s2c), (vs a1 (Xm xs x).length c1), (vi q_)].toArray) ∧ Ej w w2 B1 ∧ Bt Ef 8 50 a1 c1 B1 (List.zip (Xm xs x) (kI xs ts x v)) := by
 have hz := Hf h.1
 have h2 := AN9 w (s0a := s0a) (s0n := s0n) (s0c := s0c) (s1a := s1a) (s1n := s1n) (s1c := s1c) (s2a := s2a) (s2n := s2n) (s2c := s2c) (q_ := q_) (l_a := l_a) (l_c := l_c) (l := List.zip xs ts) (x := (x, v)) h.2.1 (by rw [hz]; exact n) (by rw [hz]; exact k)
 rw [hz, W8 x v h.1, Hf (eT xs ts x v h.1)] at h2
 exact h2
end Go.Proofs.YtdnjanhdnibkfaaGreatDoor.Jd

namespace Go.Proofs.YtdnjanhdnibkfaaGreatDoor.Jd
open Go.Proofs.Tryz
set_option linter.unusedVariables false
set_option linter.unusedSimpArgs false
theorem Wv {l : List Ah} : Fs l ↔ ∀ t ∈ l, t.rules.length ≤ 1000 ∧ t.creds.length ≤ 1000 := by
  constructor
  · intro h t ht
    obtain ⟨k, hk, rfl⟩ := List.getElem_of_mem ht
    have := h k hk
    simpa [List.getD, hk] using this
  · intro h i hi
    refine h _ ?_
    rw [List.getD_eq_getElem?_getD, List.getElem?_eq_getElem hi]; exact List.getElem_mem hi
theorem Fs.nil : Fs [] := fun i hi => by simp at hi
theorem Fs.at {l : List Ah} (h : Fs l) (i : Nat) : (l.getD i default).rules.length ≤ 1000 ∧ (l.getD i default).creds.length ≤ 1000 := by
  by_cases hi : i < l.length
  · exact h i hi
  · have e : l.getD i default = default := by rw [List.getD_eq_getElem?_getD, List.getElem?_eq_none z3]; rfl
    rw [e]; exact ⟨by decide, by decide⟩
theorem Fs.cons {t : Ah} {l : List Ah} (h1 : t.rules.length ≤ 1000 ∧ t.creds.length ≤ 1000) (h : Fs l) : Fs (t :: l) := by
  rw [Wv] at h ⊢
  intro u hu
  rcases List.mem_cons.1 hu with rfl | hu
  · exact h1
  · exact h u hu
theorem Fs.take {a : List Ah} (h : Fs a) (n : Nat) : Fs (a.take n) := by
  rw [Wv] at h ⊢
  exact fun u hu => h u (List.mem_of_mem_take hu)
theorem Fs.drop {a : List Ah} (h : Fs a) (n : Nat) : Fs (a.drop n) := by
  rw [Wv] at h ⊢
  exact fun u hu => h u (List.mem_of_mem_drop hu)
end Go.Proofs.YtdnjanhdnibkfaaGreatDoor.Jd

namespace Go.Proofs.YtdnjanhdnibkfaaGreatDoor.Jd
open Go.Proofs.Tryz
open Go.Proofs
open Go.RowKit (Below)
set_option maxRecDepth 100000
set_option maxHeartbeats 8000000
set_option linter.unusedVariables false
set_option linter.unusedSimpArgs false
theorem Ww : Bl Tryz.prog 28 0 0 := fun r k w => by simp [Instr.fieldAt, Instr.sureAddr, fieldPlace, Bc]
theorem Ke : Bl Tryz.prog 28 1 1 := fun r k w => by simp [Instr.fieldAt, Instr.sureAddr, fieldPlace, Bc]
theorem cB : Bl Tryz.prog 28 2 2 := fun r k w => by simp [Instr.fieldAt, Instr.sureAddr, fieldPlace, Bc]
theorem X3 : Bl Tryz.prog 146 0 0 := fun r k w => by simp [Instr.fieldAt, Instr.sureAddr, fieldPlace, Bc]
theorem X4 : Bl Tryz.prog 146 1 1 := fun r k w => by simp [Instr.fieldAt, Instr.sureAddr, fieldPlace, Bc]
theorem BJ8 : Fh Tryz.prog 28 [(0, 1), (1, 1), (2, 1)] := ⟨_, fun w => runUnderlying28 w, fun w => by simp⟩
theorem BB2 : Fh Tryz.prog 146 [(0, 1), (1, 1)] := ⟨_, fun w => runUnderlying146 w, fun w => by simp⟩
theorem X5 (a0 b0 : Int) (a1 b1 : Int) (a2 b2 : An) (n : Nat) (w : World) : (Op.equalIn (n + 2) 28 (Value.agg [vi a0, vi a1, Value.string (bs a2)].toArray) (Value.agg [vi b0, vi b1, Value.string (bs b2)].toArray)).run Tryz.prog w = .ok (decide (a0 = b0 ∧ a1 = b1 ∧ a2 = b2)) w := by
 rw [show n + 2 = (n + 1) + 1 from rfl]
 unfold Op.equalIn
 simp [part, aW (P := Tryz.prog) (t := 3) n .i64 _ _ runUnderlying3, dL (P := Tryz.prog) (t := 9) n _ _ runUnderlying9]
 by_cases h0 : a0 = b0 <;> by_cases h1 : a1 = b1 <;> by_cases h2 : a2 = b2 <;> simp_all
theorem X6 (x y : Operand) (a0 b0 : Int) (a1 b1 : Int) (a2 b2 : An) (w : World) : (do eqGuard .eql 28 x y (Value.agg [vi a0, vi a1, Value.string (bs a2)].toArray) (Value.agg [vi b0, vi b1, Value.string (bs b2)].toArray); binOp .eql 28 (Value.agg [vi a0, vi a1, Value.string (bs a2)].toArray) (Value.agg [vi b0, vi b1, Value.string (bs b2)].toArray) : Sem Value).run Tryz.prog w = .ok (.bool (decide (a0 = b0 ∧ a1 = b1 ∧ a2 = b2))) w := by
 have h2 : (binOp .eql 28 (Value.agg [vi a0, vi a1, Value.string (bs a2)].toArray) (Value.agg [vi b0, vi b1, Value.string (bs b2)].toArray)).run Tryz.prog w = .ok (.bool (decide (a0 = b0 ∧ a1 = b1 ∧ a2 = b2))) w := by
  show (do pure (.bool (← Op.equal 28 _ _)) : Sem Value).run Tryz.prog w = _
  simp only [Sem.run_bind, Op.equal, Op.maxDepth, X5 a0 b0 a1 b1 a2 b2 9998, Result.andThen_ok, Sem.run_pure]
 simp [eqGuard]
 simpa using h2
theorem BJ9 (x y : Operand) (a0 b0 : Int) (a1 b1 : Int) (a2 b2 : An) (w : World) : (do eqGuard .neq 28 x y (Value.agg [vi a0, vi a1, Value.string (bs a2)].toArray) (Value.agg [vi b0, vi b1, Value.string (bs b2)].toArray); binOp .neq 28 (Value.agg [vi a0, vi a1, Value.string (bs a2)].toArray) (Value.agg [vi b0, vi b1, Value.string (bs b2)].toArray) : Sem Value).run Tryz.prog w = .ok (.bool (decide (¬ (a0 = b0 ∧ a1 = b1 ∧ a2 = b2)))) w := by
 have h2 : (binOp .neq 28 (Value.agg [vi a0, vi a1, Value.string (bs a2)].toArray) (Value.agg [vi b0, vi b1, Value.string (bs b2)].toArray)).run Tryz.prog w = .ok (.bool (decide (¬ (a0 = b0 ∧ a1 = b1 ∧ a2 = b2)))) w := by
  show (do pure (.bool (!(← Op.equal 28 _ _))) : Sem Value).run Tryz.prog w = _
  simp only [Sem.run_bind, Op.equal, Op.maxDepth, X5 a0 b0 a1 b1 a2 b2 9998, Result.andThen_ok, Sem.run_pure]
  congr 2
  simp
 simp [eqGuard]
 simpa using h2
theorem kL (w : World)  : Calls Tryz.prog 70 (List.toArray []) w fun e w2 => ∃ r : Nat, ∃ es : Array MapEntry, ∃ ck : Nat, e = .returned (Value.map (some r)) ∧ Ej w w2 [(r, Obj.map es ck)] ∧ Ja (fun x : Int => vi x) es ([(1, (Value.agg [(vi 1), (vi 64)].toArray)), (2, (Value.agg [(vi 32), (vi 32)].toArray)), (3, (Value.agg [(vi 1), (vi 64)].toArray)), (4, (Value.agg [(vi 1), (vi 512)].toArray)), (5, (Value.agg [(vi 2), (vi 2)].toArray)), (6, (Value.agg [(vi 0), (vi 0)].toArray)), (7, (Value.agg [(vi 0), (vi 0)].toArray)), (8, (Value.agg [(vi 0), (vi 8)].toArray))] : List (Int × Value)) := by
 have hF := Is.refl ()
 refine enter func70 ntmps70 (h := ?_)
 refine Nk ?_
 refine Ak Ag Xy (k := fun r1 hr1 => ?_)
 refine sT ?_
 refine Gm (ml := ([] : List (Int × Value))) 1 Cf runUnderlying148 runUnderlying3 (Ja.nil (enc := fun x : Int => vi x)) Ij q0 (k := fun em1 km1 hms1 => ?_)
 refine sT ?_
 refine Gm (ml := ([(1, (Value.agg [(vi 1), (vi 64)].toArray))] : List (Int × Value))) 2 Cf runUnderlying148 runUnderlying3 hms1 Ij q0 (k := fun em2 km2 hms2 => ?_)
 refine sT ?_
 refine Gm (ml := ([(1, (Value.agg [(vi 1), (vi 64)].toArray)), (2, (Value.agg [(vi 32), (vi 32)].toArray))] : List (Int × Value))) 3 Cf runUnderlying148 runUnderlying3 hms2 Ij q0 (k := fun em3 km3 hms3 => ?_)
 refine sT ?_
 refine Gm (ml := ([(1, (Value.agg [(vi 1), (vi 64)].toArray)), (2, (Value.agg [(vi 32), (vi 32)].toArray)), (3, (Value.agg [(vi 1), (vi 64)].toArray))] : List (Int × Value))) 4 Cf runUnderlying148 runUnderlying3 hms3 Ij q0 (k := fun em4 km4 hms4 => ?_)
 refine sT ?_
 refine Gm (ml := ([(1, (Value.agg [(vi 1), (vi 64)].toArray)), (2, (Value.agg [(vi 32), (vi 32)].toArray)), (3, (Value.agg [(vi 1), (vi 64)].toArray)), (4, (Value.agg [(vi 1), (vi 512)].toArray))] : List (Int × Value))) 5 Cf runUnderlying148 runUnderlying3 hms4 Ij q0 (k := fun em5 km5 hms5 => ?_)
 refine sT ?_
 refine Gm (ml := ([(1, (Value.agg [(vi 1), (vi 64)].toArray)), (2, (Value.agg [(vi 32), (vi 32)].toArray)), (3, (Value.agg [(vi 1), (vi 64)].toArray)), (4, (Value.agg [(vi 1), (vi 512)].toArray)), (5, (Value.agg [(vi 2), (vi 2)].toArray))] : List (Int × Value))) 6 Cf runUnderlying148 runUnderlying3 hms5 Ij q0 (k := fun em6 km6 hms6 => ?_)
 refine sT ?_
 refine Gm (ml := ([(1, (Value.agg [(vi 1), (vi 64)].toArray)), (2, (Value.agg [(vi 32), (vi 32)].toArray)), (3, (Value.agg [(vi 1), (vi 64)].toArray)), (4, (Value.agg [(vi 1), (vi 512)].toArray)), (5, (Value.agg [(vi 2), (vi 2)].toArray)), (6, (Value.agg [(vi 0), (vi 0)].toArray))] : List (Int × Value))) 7 Cf runUnderlying148 runUnderlying3 hms6 Ij q0 (k := fun em7 km7 hms7 => ?_)
 refine sT ?_
 refine Gm (ml := ([(1, (Value.agg [(vi 1), (vi 64)].toArray)), (2, (Value.agg [(vi 32), (vi 32)].toArray)), (3, (Value.agg [(vi 1), (vi 64)].toArray)), (4, (Value.agg [(vi 1), (vi 512)].toArray)), (5, (Value.agg [(vi 2), (vi 2)].toArray)), (6, (Value.agg [(vi 0), (vi 0)].toArray)), (7, (Value.agg [(vi 0), (vi 0)].toArray))] : List (Int × Value))) 8 Cf runUnderlying148 runUnderlying3 hms7 Ij q0 (k := fun em8 km8 hms8 => ?_)
 refine Ck ?_
 refine Z4 ?_
 refine Aa results70 z0 (fun w1 hw1 => ?_)
 exact ⟨r1, em8, km8, rfl, (Ax (L := [(r1, Obj.map em8 km8)]) (hw1.perm (List.Perm.refl _)) rfl), hms8⟩

theorem Zg (w : World) {f : Frame} : Ha Tryz.prog 30 [(Value.agg [(vi f.kind), (vi f.stream), (vt f.data)].toArray)] w (Value.bool (Dy f)) := by
 have hF := Is.refl (Dy f)
 refine enter func30 ntmps30 (h := ?_)
 refine Z2 ?_
 refine Ak Ag Ll (k := fun r1 hr1 => ?_)
 refine Kt ?_
 refine Ik ?_
 refine yW (σ1 := Bool) (σ2 := Nat) (σ3 := Nat) (σ4 := Nat) (fun ok_1 x_2 x_3 r162 => ((r162, oc [(vi ((x_2 : Nat) : Int)), (vi ((x_3 : Nat) : Int))] 146) :: ((r1, oc [(vi f.kind), (vi f.stream), (vt f.data)] 28) :: []))) (fun ok_1 x_2 x_3 r162 => [(1, (Value.pointer (some ⟨r1, 0, none⟩))), (2, (Value.bool false)), (3, (Value.func (.func 69) [].toArray [].toArray)), (4, (Value.pointer (some ⟨r162, 0, none⟩))), (5, (Value.bool ok_1))]) (fun ok_1 x_2 x_3 r162 => Is (Is.xr3 hF) (ok_1, x_2, x_3)) ?_ ?_
 ·skip
  refine Xx (V := []) mixed 10 z2 ?_
  refine Ct 1 rfl z2 (Al Ww) (k := ?_)
  refine Ct 2 rfl z2 J9 (k := ?_)
  refine Cc [0, 7] z2 rfl (List.forall_mem_cons.2 ⟨?_, (List.forall_mem_cons.2 ⟨?_, nofun⟩)⟩)
  ·skip
   refine E1 rfl (Ac call70) (fun w1 hw1 => kL w1) (k := ?_)
   rintro w1_21 e1_21 w2_21 hw1_21 ⟨rm_21, em_21, km_21, he_21, hf_21, hm_21⟩
   refine ⟨_, _, _, he_21, hf_21, rfl, ?_⟩
   by_cases hq1 : f.kind = 1
   ·refine Ct 3 rfl z2 (Dm (l := ([(1, (Value.agg [(vi 1), (vi 64)].toArray)), (2, (Value.agg [(vi 32), (vi 32)].toArray)), (3, (Value.agg [(vi 1), (vi 64)].toArray)), (4, (Value.agg [(vi 1), (vi 512)].toArray)), (5, (Value.agg [(vi 2), (vi 2)].toArray)), (6, (Value.agg [(vi 0), (vi 0)].toArray)), (7, (Value.agg [(vi 0), (vi 0)].toArray)), (8, (Value.agg [(vi 0), (vi 8)].toArray))] : List (Int × Value))) (v := (Value.agg [(vi 1), (vi 64)].toArray)) f.kind Cf runUnderlying148 runUnderlying3 zeroValue146 hm_21 (Co hq1.symm)) (k := ?_)
    refine Lh ?_
    refine Cc [7] z2 rfl (List.forall_mem_cons.2 ⟨?_, nofun⟩)
    ·skip
     refine Jp rfl Ag z48 (k := fun r162 hr162 => ?_)
     refine Cc [8] z2 rfl (List.forall_mem_cons.2 ⟨?_, nofun⟩)
     ·skip
      refine Tw ?_
      exact Dn true 1 64 r162 ((Is.refl (Is.xr3 hF)).pos hq1) se (List.Perm.refl _)
   by_cases hq2 : f.kind = 2
   ·refine Ct 3 rfl z2 (Dm (l := ([(1, (Value.agg [(vi 1), (vi 64)].toArray)), (2, (Value.agg [(vi 32), (vi 32)].toArray)), (3, (Value.agg [(vi 1), (vi 64)].toArray)), (4, (Value.agg [(vi 1), (vi 512)].toArray)), (5, (Value.agg [(vi 2), (vi 2)].toArray)), (6, (Value.agg [(vi 0), (vi 0)].toArray)), (7, (Value.agg [(vi 0), (vi 0)].toArray)), (8, (Value.agg [(vi 0), (vi 8)].toArray))] : List (Int × Value))) (v := (Value.agg [(vi 32), (vi 32)].toArray)) f.kind Cf runUnderlying148 runUnderlying3 zeroValue146 hm_21 ((Ai (fun e => hq1 e.symm)).trans (Co hq2.symm))) (k := ?_)
    refine Lh ?_
    refine Cc [7] z2 rfl (List.forall_mem_cons.2 ⟨?_, nofun⟩)
    ·skip
     refine Jp rfl Ag z48 (k := fun r162 hr162 => ?_)
     refine Cc [8] z2 rfl (List.forall_mem_cons.2 ⟨?_, nofun⟩)
     ·skip
      refine Tw ?_
      exact Dn true 32 32 r162 (((Is.refl (Is.xr3 hF)).neg hq1).pos hq2) se (List.Perm.refl _)
   by_cases hq3 : f.kind = 3
   ·refine Ct 3 rfl z2 (Dm (l := ([(1, (Value.agg [(vi 1), (vi 64)].toArray)), (2, (Value.agg [(vi 32), (vi 32)].toArray)), (3, (Value.agg [(vi 1), (vi 64)].toArray)), (4, (Value.agg [(vi 1), (vi 512)].toArray)), (5, (Value.agg [(vi 2), (vi 2)].toArray)), (6, (Value.agg [(vi 0), (vi 0)].toArray)), (7, (Value.agg [(vi 0), (vi 0)].toArray)), (8, (Value.agg [(vi 0), (vi 8)].toArray))] : List (Int × Value))) (v := (Value.agg [(vi 1), (vi 64)].toArray)) f.kind Cf runUnderlying148 runUnderlying3 zeroValue146 hm_21 ((Ai (fun e => hq1 e.symm)).trans ((Ai (fun e => hq2 e.symm)).trans (Co hq3.symm)))) (k := ?_)
    refine Lh ?_
    refine Cc [7] z2 rfl (List.forall_mem_cons.2 ⟨?_, nofun⟩)
    ·skip
     refine Jp rfl Ag z48 (k := fun r162 hr162 => ?_)
     refine Cc [8] z2 rfl (List.forall_mem_cons.2 ⟨?_, nofun⟩)
     ·skip
      refine Tw ?_
      exact Dn true 1 64 r162 ((((Is.refl (Is.xr3 hF)).neg hq1).neg hq2).pos hq3) se (List.Perm.refl _)
   by_cases hq4 : f.kind = 4
   ·refine Ct 3 rfl z2 (Dm (l := ([(1, (Value.agg [(vi 1), (vi 64)].toArray)), (2, (Value.agg [(vi 32), (vi 32)].toArray)), (3, (Value.agg [(vi 1), (vi 64)].toArray)), (4, (Value.agg [(vi 1), (vi 512)].toArray)), (5, (Value.agg [(vi 2), (vi 2)].toArray)), (6, (Value.agg [(vi 0), (vi 0)].toArray)), (7, (Value.agg [(vi 0), (vi 0)].toArray)), (8, (Value.agg [(vi 0), (vi 8)].toArray))] : List (Int × Value))) (v := (Value.agg [(vi 1), (vi 512)].toArray)) f.kind Cf runUnderlying148 runUnderlying3 zeroValue146 hm_21 ((Ai (fun e => hq1 e.symm)).trans ((Ai (fun e => hq2 e.symm)).trans ((Ai (fun e => hq3 e.symm)).trans (Co hq4.symm))))) (k := ?_)
    refine Lh ?_
    refine Cc [7] z2 rfl (List.forall_mem_cons.2 ⟨?_, nofun⟩)
    ·skip
     refine Jp rfl Ag z48 (k := fun r162 hr162 => ?_)
     refine Cc [8] z2 rfl (List.forall_mem_cons.2 ⟨?_, nofun⟩)
     ·skip
      refine Tw ?_
      exact Dn true 1 512 r162 (((((Is.refl (Is.xr3 hF)).neg hq1).neg hq2).neg hq3).pos hq4) se (List.Perm.refl _)
   by_cases hq5 : f.kind = 5
   ·refine Ct 3 rfl z2 (Dm (l := ([(1, (Value.agg [(vi 1), (vi 64)].toArray)), (2, (Value.agg [(vi 32), (vi 32)].toArray)), (3, (Value.agg [(vi 1), (vi 64)].toArray)), (4, (Value.agg [(vi 1), (vi 512)].toArray)), (5, (Value.agg [(vi 2), (vi 2)].toArray)), (6, (Value.agg [(vi 0), (vi 0)].toArray)), (7, (Value.agg [(vi 0), (vi 0)].toArray)), (8, (Value.agg [(vi 0), (vi 8)].toArray))] : List (Int × Value))) (v := (Value.agg [(vi 2), (vi 2)].toArray)) f.kind Cf runUnderlying148 runUnderlying3 zeroValue146 hm_21 ((Ai (fun e => hq1 e.symm)).trans ((Ai (fun e => hq2 e.symm)).trans ((Ai (fun e => hq3 e.symm)).trans ((Ai (fun e => hq4 e.symm)).trans (Co hq5.symm)))))) (k := ?_)
    refine Lh ?_
    refine Cc [7] z2 rfl (List.forall_mem_cons.2 ⟨?_, nofun⟩)
    ·skip
     refine Jp rfl Ag z48 (k := fun r162 hr162 => ?_)
     refine Cc [8] z2 rfl (List.forall_mem_cons.2 ⟨?_, nofun⟩)
     ·skip
      refine Tw ?_
      exact Dn true 2 2 r162 ((((((Is.refl (Is.xr3 hF)).neg hq1).neg hq2).neg hq3).neg hq4).pos hq5) se (List.Perm.refl _)
   by_cases hq6 : f.kind = 6
   ·refine Ct 3 rfl z2 (Dm (l := ([(1, (Value.agg [(vi 1), (vi 64)].toArray)), (2, (Value.agg [(vi 32), (vi 32)].toArray)), (3, (Value.agg [(vi 1), (vi 64)].toArray)), (4, (Value.agg [(vi 1), (vi 512)].toArray)), (5, (Value.agg [(vi 2), (vi 2)].toArray)), (6, (Value.agg [(vi 0), (vi 0)].toArray)), (7, (Value.agg [(vi 0), (vi 0)].toArray)), (8, (Value.agg [(vi 0), (vi 8)].toArray))] : List (Int × Value))) (v := (Value.agg [(vi 0), (vi 0)].toArray)) f.kind Cf runUnderlying148 runUnderlying3 zeroValue146 hm_21 ((Ai (fun e => hq1 e.symm)).trans ((Ai (fun e => hq2 e.symm)).trans ((Ai (fun e => hq3 e.symm)).trans ((Ai (fun e => hq4 e.symm)).trans ((Ai (fun e => hq5 e.symm)).trans (Co hq6.symm))))))) (k := ?_)
    refine Lh ?_
    refine Cc [7] z2 rfl (List.forall_mem_cons.2 ⟨?_, nofun⟩)
    ·skip
     refine Jp rfl Ag z48 (k := fun r162 hr162 => ?_)
     refine Cc [8] z2 rfl (List.forall_mem_cons.2 ⟨?_, nofun⟩)
     ·skip
      refine Tw ?_
      exact Dn true 0 0 r162 (((((((Is.refl (Is.xr3 hF)).neg hq1).neg hq2).neg hq3).neg hq4).neg hq5).pos hq6) se (List.Perm.refl _)
   by_cases hq7 : f.kind = 7
   ·refine Ct 3 rfl z2 (Dm (l := ([(1, (Value.agg [(vi 1), (vi 64)].toArray)), (2, (Value.agg [(vi 32), (vi 32)].toArray)), (3, (Value.agg [(vi 1), (vi 64)].toArray)), (4, (Value.agg [(vi 1), (vi 512)].toArray)), (5, (Value.agg [(vi 2), (vi 2)].toArray)), (6, (Value.agg [(vi 0), (vi 0)].toArray)), (7, (Value.agg [(vi 0), (vi 0)].toArray)), (8, (Value.agg [(vi 0), (vi 8)].toArray))] : List (Int × Value))) (v := (Value.agg [(vi 0), (vi 0)].toArray)) f.kind Cf runUnderlying148 runUnderlying3 zeroValue146 hm_21 ((Ai (fun e => hq1 e.symm)).trans ((Ai (fun e => hq2 e.symm)).trans ((Ai (fun e => hq3 e.symm)).trans ((Ai (fun e => hq4 e.symm)).trans ((Ai (fun e => hq5 e.symm)).trans ((Ai (fun e => hq6 e.symm)).trans (Co hq7.symm)))))))) (k := ?_)
    refine Lh ?_
    refine Cc [7] z2 rfl (List.forall_mem_cons.2 ⟨?_, nofun⟩)
    ·skip
     refine Jp rfl Ag z48 (k := fun r162 hr162 => ?_)
     refine Cc [8] z2 rfl (List.forall_mem_cons.2 ⟨?_, nofun⟩)
     ·skip
      refine Tw ?_
      exact Dn true 0 0 r162 ((((((((Is.refl (Is.xr3 hF)).neg hq1).neg hq2).neg hq3).neg hq4).neg hq5).neg hq6).pos hq7) se (List.Perm.refl _)
   by_cases hq8 : f.kind = 8
   ·refine Ct 3 rfl z2 (Dm (l := ([(1, (Value.agg [(vi 1), (vi 64)].toArray)), (2, (Value.agg [(vi 32), (vi 32)].toArray)), (3, (Value.agg [(vi 1), (vi 64)].toArray)), (4, (Value.agg [(vi 1), (vi 512)].toArray)), (5, (Value.agg [(vi 2), (vi 2)].toArray)), (6, (Value.agg [(vi 0), (vi 0)].toArray)), (7, (Value.agg [(vi 0), (vi 0)].toArray)), (8, (Value.agg [(vi 0), (vi 8)].toArray))] : List (Int × Value))) (v := (Value.agg [(vi 0), (vi 8)].toArray)) f.kind Cf runUnderlying148 runUnderlying3 zeroValue146 hm_21 ((Ai (fun e => hq1 e.symm)).trans ((Ai (fun e => hq2 e.symm)).trans ((Ai (fun e => hq3 e.symm)).trans ((Ai (fun e => hq4 e.symm)).trans ((Ai (fun e => hq5 e.symm)).trans ((Ai (fun e => hq6 e.symm)).trans ((Ai (fun e => hq7 e.symm)).trans (Co hq8.symm))))))))) (k := ?_)
    refine Lh ?_
    refine Cc [7] z2 rfl (List.forall_mem_cons.2 ⟨?_, nofun⟩)
    ·skip
     refine Jp rfl Ag z48 (k := fun r162 hr162 => ?_)
     refine Cc [8] z2 rfl (List.forall_mem_cons.2 ⟨?_, nofun⟩)
     ·skip
      refine Tw ?_
      exact Dn true 0 8 r162 (((((((((Is.refl (Is.xr3 hF)).neg hq1).neg hq2).neg hq3).neg hq4).neg hq5).neg hq6).neg hq7).pos hq8) se (List.Perm.refl _)
   refine Ct 3 rfl z2 (St (l := ([(1, (Value.agg [(vi 1), (vi 64)].toArray)), (2, (Value.agg [(vi 32), (vi 32)].toArray)), (3, (Value.agg [(vi 1), (vi 64)].toArray)), (4, (Value.agg [(vi 1), (vi 512)].toArray)), (5, (Value.agg [(vi 2), (vi 2)].toArray)), (6, (Value.agg [(vi 0), (vi 0)].toArray)), (7, (Value.agg [(vi 0), (vi 0)].toArray)), (8, (Value.agg [(vi 0), (vi 8)].toArray))] : List (Int × Value))) f.kind Cf runUnderlying148 runUnderlying3 zeroValue146 hm_21 ((Ai (fun e => hq1 e.symm)).trans ((Ai (fun e => hq2 e.symm)).trans ((Ai (fun e => hq3 e.symm)).trans ((Ai (fun e => hq4 e.symm)).trans ((Ai (fun e => hq5 e.symm)).trans ((Ai (fun e => hq6 e.symm)).trans ((Ai (fun e => hq7 e.symm)).trans ((Ai (fun e => hq8 e.symm)).trans Lz))))))))) (k := ?_)
   refine Lh ?_
   refine Cc [7] z2 rfl (List.forall_mem_cons.2 ⟨?_, nofun⟩)
   ·skip
    refine Jp rfl Ag z48 (k := fun r162 hr162 => ?_)
    refine Cc [8] z2 rfl (List.forall_mem_cons.2 ⟨?_, nofun⟩)
    ·skip
     refine Tw ?_
     exact Dn false 0 0 r162 (((((((((Is.refl (Is.xr3 hF)).neg hq1).neg hq2).neg hq3).neg hq4).neg hq5).neg hq6).neg hq7).neg hq8) se (List.Perm.refl _)
  ·skip
   refine Jp rfl Ag z48 (k := fun r162 hr162 => ?_)
   refine Cc [0] z2 rfl (List.forall_mem_cons.2 ⟨?_, nofun⟩)
   ·skip
    refine E1 rfl (Ac call70) (fun w1 hw1 => kL w1) (k := ?_)
    rintro w1_21 e1_21 w2_21 hw1_21 ⟨rm_21, em_21, km_21, he_21, hf_21, hm_21⟩
    refine ⟨_, _, _, he_21, hf_21, rfl, ?_⟩
    by_cases hq9 : f.kind = 1
    ·refine Ct 3 rfl z2 (Dm (l := ([(1, (Value.agg [(vi 1), (vi 64)].toArray)), (2, (Value.agg [(vi 32), (vi 32)].toArray)), (3, (Value.agg [(vi 1), (vi 64)].toArray)), (4, (Value.agg [(vi 1), (vi 512)].toArray)), (5, (Value.agg [(vi 2), (vi 2)].toArray)), (6, (Value.agg [(vi 0), (vi 0)].toArray)), (7, (Value.agg [(vi 0), (vi 0)].toArray)), (8, (Value.agg [(vi 0), (vi 8)].toArray))] : List (Int × Value))) (v := (Value.agg [(vi 1), (vi 64)].toArray)) f.kind Cf runUnderlying148 runUnderlying3 zeroValue146 hm_21 (Co hq9.symm)) (k := ?_)
     refine Lh ?_
     refine Cc [8] z2 rfl (List.forall_mem_cons.2 ⟨?_, nofun⟩)
     ·skip
      refine Tw ?_
      exact Dn true 1 64 r162 ((Is.refl (Is.xr3 hF)).pos hq9) se (List.Perm.refl _)
    by_cases hq10 : f.kind = 2
    ·refine Ct 3 rfl z2 (Dm (l := ([(1, (Value.agg [(vi 1), (vi 64)].toArray)), (2, (Value.agg [(vi 32), (vi 32)].toArray)), (3, (Value.agg [(vi 1), (vi 64)].toArray)), (4, (Value.agg [(vi 1), (vi 512)].toArray)), (5, (Value.agg [(vi 2), (vi 2)].toArray)), (6, (Value.agg [(vi 0), (vi 0)].toArray)), (7, (Value.agg [(vi 0), (vi 0)].toArray)), (8, (Value.agg [(vi 0), (vi 8)].toArray))] : List (Int × Value))) (v := (Value.agg [(vi 32), (vi 32)].toArray)) f.kind Cf runUnderlying148 runUnderlying3 zeroValue146 hm_21 ((Ai (fun e => hq9 e.symm)).trans (Co hq10.symm))) (k := ?_)
     refine Lh ?_
     refine Cc [8] z2 rfl (List.forall_mem_cons.2 ⟨?_, nofun⟩)
     ·skip
      refine Tw ?_
      exact Dn true 32 32 r162 (((Is.refl (Is.xr3 hF)).neg hq9).pos hq10) se (List.Perm.refl _)
    by_cases hq11 : f.kind = 3
    ·refine Ct 3 rfl z2 (Dm (l := ([(1, (Value.agg [(vi 1), (vi 64)].toArray)), (2, (Value.agg [(vi 32), (vi 32)].toArray)), (3, (Value.agg [(vi 1), (vi 64)].toArray)), (4, (Value.agg [(vi 1), (vi 512)].toArray)), (5, (Value.agg [(vi 2), (vi 2)].toArray)), (6, (Value.agg [(vi 0), (vi 0)].toArray)), (7, (Value.agg [(vi 0), (vi 0)].toArray)), (8, (Value.agg [(vi 0), (vi 8)].toArray))] : List (Int × Value))) (v := (Value.agg [(vi 1), (vi 64)].toArray)) f.kind Cf runUnderlying148 runUnderlying3 zeroValue146 hm_21 ((Ai (fun e => hq9 e.symm)).trans ((Ai (fun e => hq10 e.symm)).trans (Co hq11.symm)))) (k := ?_)
     refine Lh ?_
     refine Cc [8] z2 rfl (List.forall_mem_cons.2 ⟨?_, nofun⟩)
     ·skip
      refine Tw ?_
      exact Dn true 1 64 r162 ((((Is.refl (Is.xr3 hF)).neg hq9).neg hq10).pos hq11) se (List.Perm.refl _)
    by_cases hq12 : f.kind = 4
    ·refine Ct 3 rfl z2 (Dm (l := ([(1, (Value.agg [(vi 1), (vi 64)].toArray)), (2, (Value.agg [(vi 32), (vi 32)].toArray)), (3, (Value.agg [(vi 1), (vi 64)].toArray)), (4, (Value.agg [(vi 1), (vi 512)].toArray)), (5, (Value.agg [(vi 2), (vi 2)].toArray)), (6, (Value.agg [(vi 0), (vi 0)].toArray)), (7, (Value.agg [(vi 0), (vi 0)].toArray)), (8, (Value.agg [(vi 0), (vi 8)].toArray))] : List (Int × Value))) (v := (Value.agg [(vi 1), (vi 512)].toArray)) f.kind Cf runUnderlying148 runUnderlying3 zeroValue146 hm_21 ((Ai (fun e => hq9 e.symm)).trans ((Ai (fun e => hq10 e.symm)).trans ((Ai (fun e => hq11 e.symm)).trans (Co hq12.symm))))) (k := ?_)
     refine Lh ?_
     refine Cc [8] z2 rfl (List.forall_mem_cons.2 ⟨?_, nofun⟩)
     ·skip
      refine Tw ?_
      exact Dn true 1 512 r162 (((((Is.refl (Is.xr3 hF)).neg hq9).neg hq10).neg hq11).pos hq12) se (List.Perm.refl _)
    by_cases hq13 : f.kind = 5
    ·refine Ct 3 rfl z2 (Dm (l := ([(1, (Value.agg [(vi 1), (vi 64)].toArray)), (2, (Value.agg [(vi 32), (vi 32)].toArray)), (3, (Value.agg [(vi 1), (vi 64)].toArray)), (4, (Value.agg [(vi 1), (vi 512)].toArray)), (5, (Value.agg [(vi 2), (vi 2)].toArray)), (6, (Value.agg [(vi 0), (vi 0)].toArray)), (7, (Value.agg [(vi 0), (vi 0)].toArray)), (8, (Value.agg [(vi 0), (vi 8)].toArray))] : List (Int × Value))) (v := (Value.agg [(vi 2), (vi 2)].toArray)) f.kind Cf runUnderlying148 runUnderlying3 zeroValue146 hm_21 ((Ai (fun e => hq9 e.symm)).trans ((Ai (fun e => hq10 e.symm)).trans ((Ai (fun e => hq11 e.symm)).trans ((Ai (fun e => hq12 e.symm)).trans (Co hq13.symm)))))) (k := ?_)
     refine Lh ?_
     refine Cc [8] z2 rfl (List.forall_mem_cons.2 ⟨?_, nofun⟩)
     ·skip
      refine Tw ?_
      exact Dn true 2 2 r162 ((((((Is.refl (Is.xr3 hF)).neg hq9).neg hq10).neg hq11).neg hq12).pos hq13) se (List.Perm.refl _)
    by_cases hq14 : f.kind = 6
    ·refine Ct 3 rfl z2 (Dm (l := ([(1, (Value.agg [(vi 1), (vi 64)].toArray)), (2, (Value.agg [(vi 32), (vi 32)].toArray)), (3, (Value.agg [(vi 1), (vi 64)].toArray)), (4, (Value.agg [(vi 1), (vi 512)].toArray)), (5, (Value.agg [(vi 2), (vi 2)].toArray)), (6, (Value.agg [(vi 0), (vi 0)].toArray)), (7, (Value.agg [(vi 0), (vi 0)].toArray)), (8, (Value.agg [(vi 0), (vi 8)].toArray))] : List (Int × Value))) (v := (Value.agg [(vi 0), (vi 0)].toArray)) f.kind Cf runUnderlying148 runUnderlying3 zeroValue146 hm_21 ((Ai (fun e => hq9 e.symm)).trans ((Ai (fun e => hq10 e.symm)).trans ((Ai (fun e => hq11 e.symm)).trans ((Ai (fun e => hq12 e.symm)).trans ((Ai (fun e => hq13 e.symm)).trans (Co hq14.symm))))))) (k := ?_)
     refine Lh ?_
     refine Cc [8] z2 rfl (List.forall_mem_cons.2 ⟨?_, nofun⟩)
     ·skip
      refine Tw ?_
      exact Dn true 0 0 r162 (((((((Is.refl (Is.xr3 hF)).neg hq9).neg hq10).neg hq11).neg hq12).neg hq13).pos hq14) se (List.Perm.refl _)
    by_cases hq15 : f.kind = 7
    ·refine Ct 3 rfl z2 (Dm (l := ([(1, (Value.agg [(vi 1), (vi 64)].toArray)), (2, (Value.agg [(vi 32), (vi 32)].toArray)), (3, (Value.agg [(vi 1), (vi 64)].toArray)), (4, (Value.agg [(vi 1), (vi 512)].toArray)), (5, (Value.agg [(vi 2), (vi 2)].toArray)), (6, (Value.agg [(vi 0), (vi 0)].toArray)), (7, (Value.agg [(vi 0), (vi 0)].toArray)), (8, (Value.agg [(vi 0), (vi 8)].toArray))] : List (Int × Value))) (v := (Value.agg [(vi 0), (vi 0)].toArray)) f.kind Cf runUnderlying148 runUnderlying3 zeroValue146 hm_21 ((Ai (fun e => hq9 e.symm)).trans ((Ai (fun e => hq10 e.symm)).trans ((Ai (fun e => hq11 e.symm)).trans ((Ai (fun e => hq12 e.symm)).trans ((Ai (fun e => hq13 e.symm)).trans ((Ai (fun e => hq14 e.symm)).trans (Co hq15.symm)))))))) (k := ?_)
     refine Lh ?_
     refine Cc [8] z2 rfl (List.forall_mem_cons.2 ⟨?_, nofun⟩)
     ·skip
      refine Tw ?_
      exact Dn true 0 0 r162 ((((((((Is.refl (Is.xr3 hF)).neg hq9).neg hq10).neg hq11).neg hq12).neg hq13).neg hq14).pos hq15) se (List.Perm.refl _)
    by_cases hq16 : f.kind = 8
    ·refine Ct 3 rfl z2 (Dm (l := ([(1, (Value.agg [(vi 1), (vi 64)].toArray)), (2, (Value.agg [(vi 32), (vi 32)].toArray)), (3, (Value.agg [(vi 1), (vi 64)].toArray)), (4, (Value.agg [(vi 1), (vi 512)].toArray)), (5, (Value.agg [(vi 2), (vi 2)].toArray)), (6, (Value.agg [(vi 0), (vi 0)].toArray)), (7, (Value.agg [(vi 0), (vi 0)].toArray)), (8, (Value.agg [(vi 0), (vi 8)].toArray))] : List (Int × Value))) (v := (Value.agg [(vi 0), (vi 8)].toArray)) f.kind Cf runUnderlying148 runUnderlying3 zeroValue146 hm_21 ((Ai (fun e => hq9 e.symm)).trans ((Ai (fun e => hq10 e.symm)).trans ((Ai (fun e => hq11 e.symm)).trans ((Ai (fun e => hq12 e.symm)).trans ((Ai (fun e => hq13 e.symm)).trans ((Ai (fun e => hq14 e.symm)).trans ((Ai (fun e => hq15 e.symm)).trans (Co hq16.symm))))))))) (k := ?_)
     refine Lh ?_
     refine Cc [8] z2 rfl (List.forall_mem_cons.2 ⟨?_, nofun⟩)
     ·skip
      refine Tw ?_
      exact Dn true 0 8 r162 (((((((((Is.refl (Is.xr3 hF)).neg hq9).neg hq10).neg hq11).neg hq12).neg hq13).neg hq14).neg hq15).pos hq16) se (List.Perm.refl _)
    refine Ct 3 rfl z2 (St (l := ([(1, (Value.agg [(vi 1), (vi 64)].toArray)), (2, (Value.agg [(vi 32), (vi 32)].toArray)), (3, (Value.agg [(vi 1), (vi 64)].toArray)), (4, (Value.agg [(vi 1), (vi 512)].toArray)), (5, (Value.agg [(vi 2), (vi 2)].toArray)), (6, (Value.agg [(vi 0), (vi 0)].toArray)), (7, (Value.agg [(vi 0), (vi 0)].toArray)), (8, (Value.agg [(vi 0), (vi 8)].toArray))] : List (Int × Value))) f.kind Cf runUnderlying148 runUnderlying3 zeroValue146 hm_21 ((Ai (fun e => hq9 e.symm)).trans ((Ai (fun e => hq10 e.symm)).trans ((Ai (fun e => hq11 e.symm)).trans ((Ai (fun e => hq12 e.symm)).trans ((Ai (fun e => hq13 e.symm)).trans ((Ai (fun e => hq14 e.symm)).trans ((Ai (fun e => hq15 e.symm)).trans ((Ai (fun e => hq16 e.symm)).trans Lz))))))))) (k := ?_)
    refine Lh ?_
    refine Cc [8] z2 rfl (List.forall_mem_cons.2 ⟨?_, nofun⟩)
    ·skip
     refine Tw ?_
     exact Dn false 0 0 r162 (((((((((Is.refl (Is.xr3 hF)).neg hq9).neg hq10).neg hq11).neg hq12).neg hq13).neg hq14).neg hq15).neg hq16) se (List.Perm.refl _)
 intro ok_1 x_2 x_3 r162 hJ4
 refine Du ?_
 refine Z2 ?_
 refine Af z77 (k := ?_)
 refine Ak Ag (Cj (l := [_, _, _]) zeroValue28) (k := fun r222 hr222 => ?_)
 refine Ep (Bn (l' := [_, _, _]) sizeOf28) (k := ?_)
 refine Jr ?_
 refine Eh mixed 34 [(true, 0), (true, 1), (true, 2), (true, 3), (true, 4), (true, 5), (true, 6), (true, 7), (true, 8), (true, 9), (true, 10), (true, 11), (false, 12), (true, 13), (true, 14), (true, 15), (true, 16), (true, 17), (true, 18), (true, 19), (true, 20), (true, 21), (true, 22), (true, 23), (true, 24), (true, 25), (true, 26), (true, 28), (true, 29), (true, 30), (false, 27), (true, 31), (true, 32), (true, 33)] z2 ?_
 refine Be z60 (k := ?_)
 refine Be z60 (k := ?_)
 refine Be (bD (BJ9 _ _ _ _ _ _ _ _)) (k := ?_)
 refine Fo ?_
 refine Dg 18 rfl (fun hq17 => ?_) (fun hq17 => ?_)
 rotate_left
 ·refine AJ9 (k := ?_)
  refine oI ?_
  refine Ay 6 rfl ?_
  refine Ni ?_
  refine Ni ?_
  refine cW ?_
  refine Ks ?_
  refine Aa results30 z0 (fun w1 hw1 => ?_)
  exact ⟨(rq ((hF.rn3 hJ4).neg hq17)), hw1.ext_out⟩
 refine Ht ?_
 refine eJ ?_
 refine Fp 21 rfl (fun hq18 => ?_) (fun hq18 => ?_)
 rotate_left
 ·refine Ay 6 rfl ?_
  refine Ni ?_
  refine Ni ?_
  refine cW ?_
  refine Ks ?_
  refine Aa results30 z0 (fun w1 hw1 => ?_)
  exact ⟨(rq (((hF.rn3 hJ4).pos hq17).f hq18)), hw1.ext_out⟩
 refine Ht ?_
 refine Bu (Ch isAgg146 sizeOf146) (k := ?_)
 refine Bu (Al cB) (k := ?_)
 refine Bu (Bm isAgg9) (k := ?_)
 refine Bu (pQ runUnderlying9) (k := ?_)
 refine gS (args := [_, _]) (Ac call69) func69 ntmps69 ?_
 refine Sk _ (eqp nE) ?_
 refine Z2 ?_
 refine Ak Ag rB (k := fun r223 hr223 => ?_)
 refine Hq ?_
 refine Af (Al X3) (k := ?_)
 refine sJ ?_
 refine Ao 9 rfl (fun hq19 => ?_) (fun hq19 => ?_)
 rotate_left
 ·refine Ab 4 rfl ?_
  refine Hz ?_
  refine Cn _ (sd (sk (sk (sk sz)))) ?_
  refine Mx _ _ results69 z0 (vp (List.Perm.refl _) nE) z37 ?_
  refine eJ ?_
  refine Ay 3 rfl ?_
  refine Ni ?_
  refine cW ?_
  refine Ks ?_
  refine Aa results30 z0 (fun w1 hw1 => ?_)
  exact ⟨(rq ((((hF.rn3 hJ4).pos hq17).t hq18).neg hq19)), hw1.ext_out⟩
 refine El ?_
 refine Ar (Al X4) (k := ?_)
 refine lD ?_
 refine Ot ?_
 refine Cn _ (sd (sk (sk (sk sz)))) ?_
 refine Mx _ _ results69 z0 (vp (List.Perm.refl _) nE) z37 ?_
 refine eJ ?_
 refine Dg 29 rfl (fun hq20 => ?_) (fun hq20 => ?_)
 rotate_left
 ·refine Ay 3 rfl ?_
  refine Ni ?_
  refine cW ?_
  refine Ks ?_
  refine Aa results30 z0 (fun w1 hw1 => ?_)
  exact ⟨(rq (((((hF.rn3 hJ4).pos hq17).t hq18).pos hq19).neg hq20)), hw1.ext_out⟩
 refine Bu (Al Ke) (k := ?_)
 refine lQ ?_
 refine Bu Qg (k := ?_)
 refine eJ ?_
 refine Dg 34 rfl (fun hq21 => ?_) (fun hq21 => ?_)
 rotate_left
 ·refine Ay 3 rfl ?_
  refine cW ?_
  refine Ks ?_
  refine Aa results30 z0 (fun w1 hw1 => ?_)
  exact ⟨(rq ((((((hF.rn3 hJ4).pos hq17).t hq18).pos hq19).pos hq20).neg hq21)), hw1.ext_out⟩
 refine Bu (Al Ke) (k := ?_)
 refine lQ ?_
 refine Bu Lm (k := ?_)
 refine eJ ?_
 refine Dg 39 rfl (fun hq22 => ?_) (fun hq22 => ?_)
 rotate_left
 ·refine Ay 7 rfl ?_
  refine Ks ?_
  refine Aa results30 z0 (fun w1 hw1 => ?_)
  exact ⟨(rq (((((((hF.rn3 hJ4).pos hq17).t hq18).pos hq19).pos hq20).pos hq21).neg hq22)), hw1.ext_out⟩
 refine Bu (Al Ww) (k := ?_)
 refine lQ ?_
 refine N5 ?_
 refine gS (args := [_]) (Ac call71) func71 ntmps71 ?_
 refine Sk _ (eqp nE) ?_
 refine Mq ?_
 refine sH ?_
 refine Ao 5 rfl (fun hq23 => ?_) (fun hq23 => ?_)
 ·refine Ab 2 rfl ?_
  refine Jh ?_
  refine Ab 2 rfl ?_
  refine Ot ?_
  refine AV3 ?_
  refine rK ?_
  refine Aa results30 z0 (fun w1 hw1 => ?_)
  exact ⟨(rq ((((((((hF.rn3 hJ4).pos hq17).t hq18).pos hq19).pos hq20).pos hq21).pos hq22).pos hq23)), hw1.ext_out⟩
 refine cP ?_
 refine Z5 ?_
 refine Ao 9 rfl (fun hq24 => ?_) (fun hq24 => ?_)
 ·refine Ab 2 rfl ?_
  refine Ot ?_
  refine AV3 ?_
  refine rK ?_
  refine Aa results30 z0 (fun w1 hw1 => ?_)
  exact ⟨(rq (((((((((hF.rn3 hJ4).pos hq17).t hq18).pos hq19).pos hq20).pos hq21).pos hq22).neg hq23).pos hq24)), hw1.ext_out⟩
 refine cP ?_
 refine Hz ?_
 refine AV3 ?_
 refine rK ?_
 refine Aa results30 z0 (fun w1 hw1 => ?_)
 exact ⟨(rq (((((((((hF.rn3 hJ4).pos hq17).t hq18).pos hq19).pos hq20).pos hq21).pos hq22).neg hq23).neg hq24)), hw1.ext_out⟩

theorem X7 (w : World) {s : An} : Ha Tryz.prog 146 [(vt s)] w (vi (zO s)) := by
 have hF := Is.refl (zO s)
 refine enter func146 ntmps146 (h := ?_)
 refine Lj ?_
 refine iW ?_
 refine cU ?_
 refine Bi rfl (fun hq1 => ?_) (fun hq1 => ?_)
 ·refine Cb ?_
  refine Lk ?_
  refine Aa results146 z0 (fun w1 hw1 => ?_)
  exact ⟨(rq (hF.pos hq1)), hw1.ext_out⟩
 refine Yq ?_
 refine Xx (V := []) mixed 9 z2 ?_
 refine Ct 0 rfl z2 Gf (k := ?_)
 have hu7 := yY (s.getD 0 default)
 refine Ct 1 rfl z2 (pR (s := s) 0 runUnderlying9 z4) (k := ?_)
 refine Ct 4 rfl z2 Gf (k := ?_)
 have hu11 := yY (s.getD 1 default)
 refine Ct 5 rfl z2 (pR (s := s) 1 runUnderlying9 z4) (k := ?_)
 refine Cc [2, 6] z2 rfl (List.forall_mem_cons.2 ⟨?_, (List.forall_mem_cons.2 ⟨?_, nofun⟩)⟩)
 ·skip
  refine BG6 ?_
  refine Cc [6] z2 rfl (List.forall_mem_cons.2 ⟨?_, nofun⟩)
  ·skip
   refine xB rfl (Ky (r := (((s.getD 1 default).toNat : Nat) : Int)) (Hh z88) runUnderlying5 runUnderlying3) (k := ?_)
   refine Ct 7 rfl z2 jD (k := ?_)
   refine Ct 8 rfl z2 Iy (k := ?_)
   refine D2 ?_
   refine kY ?_
   refine Aa results146 z0 (fun w1 hw1 => ?_)
   exact ⟨(rq (hF.neg hq1)), hw1.ext_out⟩
 ·skip
  refine xB rfl (Ky (r := (((s.getD 1 default).toNat : Nat) : Int)) (Hh z88) runUnderlying5 runUnderlying3) (k := ?_)
  refine Cc [2] z2 rfl (List.forall_mem_cons.2 ⟨?_, nofun⟩)
  ·skip
   refine BG6 ?_
   refine Ct 7 rfl z2 jD (k := ?_)
   refine Ct 8 rfl z2 Iy (k := ?_)
   refine D2 ?_
   refine kY ?_
   refine Aa results146 z0 (fun w1 hw1 => ?_)
   exact ⟨(rq (hF.neg hq1)), hw1.ext_out⟩

theorem kM (w : World) {ea0 : Addr} {ea1 : Addr} {ea2 : Addr} {ea3 : Addr} {ea4 : Addr} {ea5 : Addr} {ea6 : Addr} {ea7 : Addr} {ea8 : Addr} {ea9 : Addr} {ea10 : Addr} {ea11 : Addr} {ea12 : Addr} {ea13 : Addr} {ea14 : Addr} {ea15 : Addr} {n_ : Int} (hG : Gl w) (hE : Er w ea0 ea1 ea2 ea3 ea4 ea5 ea6 ea7 ea8 ea9 ea10 ea11 ea12 ea13 ea14 ea15) : Ha Tryz.prog 143 [(vi n_)] w (Value.tuple [(vt ((Kd n_).1)), (vi ((Kd n_).2))].toArray) := by
 have hF := Is.refl (Kd n_)
 refine enter func143 ntmps143 (h := ?_)
 refine Z2 ?_
 refine Ak Ag z31 (k := fun r1 hr1 => ?_)
 refine Mr ?_
 refine Ik ?_
 refine Z2 ?_
 refine It ?_
 refine aB ?_
 refine Ao 7 rfl (fun hq1 => ?_) (fun hq1 => ?_)
 ·refine Ab 2 rfl ?_
  refine Uy ?_
  obtain ⟨Thgl2, fhgl2, hgl2⟩ := hE.v11
  refine wG ?_
  refine Bq (args := [_]) (Ac call196) func196 ntmps196 ?_
  refine Xv ?_
  refine Ib ?_
  obtain ⟨Thgl3, fhgl3, hgl3⟩ := hE.v11
  refine sO ?_
  refine Cy (args := [(Value.iface 400 (.pointer (some ea11))), (Value.iface 400 (.pointer (some ea11)))]) (Ac call81) (fun w1 hw1 => Ih w1) (k := ?_)
  refine Z1 ?_
  refine aD ?_
  refine Bd results196 z0 ?_
  refine Nh ?_
  refine Aa results143 (Bw.tmp rfl z0) (fun w1 hw1 => ?_)
  exact ⟨(rq (hF.pos hq1)), hw1.ext_out⟩
 refine rJ ?_
 refine Pe ?_
 refine Bi rfl (fun hq4 => ?_) (fun hq4 => ?_)
 ·refine Cb ?_
  refine Cp ?_
  obtain ⟨Thgl5, fhgl5, hgl5⟩ := hE.v11
  refine D6 ?_
  refine Bq (args := [_]) (Ac call196) func196 ntmps196 ?_
  refine Xv ?_
  refine Ib ?_
  obtain ⟨Thgl6, fhgl6, hgl6⟩ := hE.v11
  refine sP ?_
  refine Cy (args := [(Value.iface 400 (.pointer (some ea11))), (Value.iface 400 (.pointer (some ea11)))]) (Ac call81) (fun w1 hw1 => Ih w1) (k := ?_)
  refine Z1 ?_
  refine aD ?_
  refine Bd results196 z0 ?_
  refine Nh ?_
  refine Aa results143 (Bw.tmp rfl z0) (fun w1 hw1 => ?_)
  exact ⟨(rq ((hF.neg hq1).pos hq4)), hw1.ext_out⟩
 refine Py ?_
 refine aA ?_
 refine Hq ?_
 refine Bq (args := [_]) (Ac call197) func197 ntmps197 ?_
 refine Nk ?_
 refine It ?_
 refine Af BI7 (k := ?_)
 refine Af (Ky rfl runUnderlying3 runUnderlying5) (k := ?_)
 refine It ?_
 refine Af AR9 (k := ?_)
 refine Af (Ky rfl runUnderlying3 runUnderlying5) (k := ?_)
 refine Ak Ag (Ea (l := [_, _]) runUnderlying174 sizeOf5 zeroValue5) (k := fun r2 hr2 => ?_)
 refine Af (jR underlying9 underlying174 underlying5 (Cl.lit (xs := ([(IntKind.u8.wrap (n_ / 256)), (IntKind.u8.wrap (n_ % 256))] : List Int)) Bz)) (k := ?_)
 refine Z4 ?_
 refine Cn _ (sd (sk sz)) ?_
 refine Bd results197 z0 ?_
 refine aC ?_
 refine Aa results143 (Bw.tmp rfl z0) (fun w1 hw1 => ?_)
 exact ⟨(rq ((hF.neg hq1).neg hq4)), hw1.ext_out⟩

end Go.Proofs.YtdnjanhdnibkfaaGreatDoor.Jd

namespace Go.Proofs.YtdnjanhdnibkfaaGreatDoor.Jd
open Go.Proofs.Tryz
open Go.Proofs
open Go.RowKit (Below)
set_option maxRecDepth 100000
set_option maxHeartbeats 8000000
set_option linter.unusedVariables false
set_option linter.unusedSimpArgs false
theorem AO5 : Bl Tryz.prog 26 0 0 := fun r k w => by simp [Instr.fieldAt, Instr.sureAddr, fieldPlace, Bc]
theorem cC : Bl Tryz.prog 26 1 1 := fun r k w => by simp [Instr.fieldAt, Instr.sureAddr, fieldPlace, Bc]
theorem Wx : Bl Tryz.prog 26 2 2 := fun r k w => by simp [Instr.fieldAt, Instr.sureAddr, fieldPlace, Bc]
theorem Qq : Bl Tryz.prog 26 3 4 := fun r k w => by simp [Instr.fieldAt, Instr.sureAddr, fieldPlace, Bc]
theorem Qr : Bl Tryz.prog 26 4 5 := fun r k w => by simp [Instr.fieldAt, Instr.sureAddr, fieldPlace, Bc]
theorem Oi : Bl Tryz.prog 26 5 6 := fun r k w => by simp [Instr.fieldAt, Instr.sureAddr, fieldPlace, Bc]
theorem X8 : Bl Tryz.prog 136 0 0 := fun r k w => by simp [Instr.fieldAt, Instr.sureAddr, fieldPlace, Bc]
theorem uQ : Bl Tryz.prog 136 1 1 := fun r k w => by simp [Instr.fieldAt, Instr.sureAddr, fieldPlace, Bc]
theorem X9 : Fh Tryz.prog 26 [(0, 1), (1, 1), (2, 2), (4, 1), (5, 1), (6, 1)] := ⟨_, fun w => runUnderlying26 w, fun w => by simp⟩
theorem BB3 : Fh Tryz.prog 136 [(0, 1), (1, 1)] := ⟨_, fun w => runUnderlying136 w, fun w => by simp⟩
theorem eU (w : World)  : Calls Tryz.prog 63 (List.toArray []) w fun e w2 => ∃ r : Nat, ∃ es : Array MapEntry, ∃ ck : Nat, e = .returned (Value.map (some r)) ∧ Ej w w2 [(r, Obj.map es ck)] ∧ Ja (fun x : Int => vi x) es ([(0, (Value.agg [(Value.bool false), (Value.bool false)].toArray)), (1, (Value.agg [(Value.bool true), (Value.bool false)].toArray)), (2, (Value.agg [(Value.bool true), (Value.bool true)].toArray)), (3, (Value.agg [(Value.bool false), (Value.bool false)].toArray))] : List (Int × Value)) := by
 have hF := Is.refl ()
 refine enter func63 ntmps63 (h := ?_)
 refine Nk ?_
 refine Ak Ag Xy (k := fun r1 hr1 => ?_)
 refine AJ3 ?_
 refine Gm (ml := ([] : List (Int × Value))) 0 Cf runUnderlying138 runUnderlying3 (Ja.nil (enc := fun x : Int => vi x)) Ij q0 (k := fun em1 km1 hms1 => ?_)
 refine AJ3 ?_
 refine Gm (ml := ([(0, (Value.agg [(Value.bool false), (Value.bool false)].toArray))] : List (Int × Value))) 1 Cf runUnderlying138 runUnderlying3 hms1 Ij q0 (k := fun em2 km2 hms2 => ?_)
 refine AJ3 ?_
 refine Gm (ml := ([(0, (Value.agg [(Value.bool false), (Value.bool false)].toArray)), (1, (Value.agg [(Value.bool true), (Value.bool false)].toArray))] : List (Int × Value))) 2 Cf runUnderlying138 runUnderlying3 hms2 Ij q0 (k := fun em3 km3 hms3 => ?_)
 refine AJ3 ?_
 refine Gm (ml := ([(0, (Value.agg [(Value.bool false), (Value.bool false)].toArray)), (1, (Value.agg [(Value.bool true), (Value.bool false)].toArray)), (2, (Value.agg [(Value.bool true), (Value.bool true)].toArray))] : List (Int × Value))) 3 Cf runUnderlying138 runUnderlying3 hms3 Ij q0 (k := fun em4 km4 hms4 => ?_)
 refine Ck ?_
 refine Z4 ?_
 refine Aa results63 z0 (fun w1 hw1 => ?_)
 exact ⟨r1, em4, km4, rfl, (Ax (L := [(r1, Obj.map em4 km4)]) (hw1.perm (List.Perm.refl _)) rfl), hms4⟩

theorem uR (w : World) {ea0 : Addr} {ea1 : Addr} {ea2 : Addr} {ea3 : Addr} {ea4 : Addr} {ea5 : Addr} {ea6 : Addr} {ea7 : Addr} {ea8 : Addr} {ea9 : Addr} {ea10 : Addr} {ea11 : Addr} {ea12 : Addr} {ea13 : Addr} {ea14 : Addr} {ea15 : Addr} {a : Int} {b : Int} (hG : Gl w) (hE : Er w ea0 ea1 ea2 ea3 ea4 ea5 ea6 ea7 ea8 ea9 ea10 ea11 ea12 ea13 ea14 ea15) : Calls Tryz.prog 23 (List.toArray [(vi a), (vi b)]) w fun e w2 => ∃ a1 : Option Addr, ∃ c1 : Nat, ∃ B : Av, e = .returned (Value.tuple [(Value.agg [(vi ((Df a b).1.phase)), (vt ((Df a b).1.name)), (vi ((Df a b).1.handle.slot)), (vi ((Df a b).1.handle.gen)), (vi ((Df a b).1.a)), (vi ((Df a b).1.b)), (vs a1 ((Df a b).1.opn.length) c1)].toArray), (vi ((Df a b).2))].toArray) ∧ Ej w w2 B ∧ Hd B eI 1 a1 (Df a b).1.opn ∧ (Df a b).1.opn.length ≤ 1000 := by
 have hF := Is.refl (Df a b)
 refine enter func23 ntmps23 (h := ?_)
 refine Z2 ?_
 refine Ak Ag mG (k := fun r1 hr1 => ?_)
 refine Ik ?_
 refine Hp ?_
 refine Ak Ag z47 (k := fun r2 hr2 => ?_)
 refine Bq (args := [_, _]) (Ac call64) func64 ntmps64 ?_
 refine Z2 ?_
 refine Ak Ag z31 (k := fun r3 hr3 => ?_)
 refine sD ?_
 refine Ji ?_
 refine B0 ?_
 refine Hp ?_
 refine vK ?_
 refine Yk ?_
 refine rO ?_
 refine iN ?_
 refine M9 ?_
 refine lB ?_
 refine iS ?_
 refine Ao 6 rfl (fun hq1 => ?_) (fun hq1 => ?_)
 ·refine Ab 3 rfl ?_
  refine Ot ?_
  refine Rj ?_
  refine Tv ?_
  refine L7 ?_
  refine L9 ?_
  refine Mp ?_
  refine iM ?_
  refine rQ ?_
  obtain ⟨Thgl2, fhgl2, hgl2⟩ := hE.v0
  refine wG ?_
  refine rU ?_
  refine Ib ?_
  obtain ⟨Thgl3, fhgl3, hgl3⟩ := hE.v0
  refine sO ?_
  refine A6 ?_
  refine aD ?_
  refine A8 ?_
  refine Rg ?_
  refine Aa results23 (Bw.agg isAgg26 sizeOf26 rfl me rfl z0) (fun w1 hw1 => ?_)
  exact ⟨none, 0, [], (rq (hF.pos hq1)), (hw1.fresh_out.sub Mo), (rn (hF.pos hq1)), (rl (hF.pos hq1))⟩
 refine lN ?_
 refine Hz ?_
 refine Rj ?_
 refine Bi rfl (fun hq4 => ?_) (fun hq4 => ?_)
 ·refine Cb ?_
  refine Jt ?_
  refine L7 ?_
  refine L9 ?_
  refine Mp ?_
  refine iM ?_
  refine rQ ?_
  obtain ⟨Thgl5, fhgl5, hgl5⟩ := hE.v0
  refine D6 ?_
  refine rU ?_
  refine Ib ?_
  obtain ⟨Thgl6, fhgl6, hgl6⟩ := hE.v0
  refine sP ?_
  refine A6 ?_
  refine aD ?_
  refine A8 ?_
  refine Rg ?_
  refine Aa results23 (Bw.agg isAgg26 sizeOf26 rfl me rfl z0) (fun w1 hw1 => ?_)
  exact ⟨none, 0, [], (rq ((hF.neg hq1).pos hq4)), (hw1.fresh_out.sub Mo), (rn ((hF.neg hq1).pos hq4)), (rl ((hF.neg hq1).pos hq4))⟩
 refine Cg ?_
 refine fQ ?_
 refine N0 ?_
 refine lB ?_
 refine iS ?_
 refine Ao 6 rfl (fun hq7 => ?_) (fun hq7 => ?_)
 ·refine Ab 3 rfl ?_
  refine Ot ?_
  refine Rj ?_
  refine Tv ?_
  refine L7 ?_
  refine L9 ?_
  refine Mp ?_
  refine iM ?_
  refine rQ ?_
  obtain ⟨Thgl8, fhgl8, hgl8⟩ := hE.v0
  refine D5 ?_
  refine rU ?_
  refine Ib ?_
  obtain ⟨Thgl9, fhgl9, hgl9⟩ := hE.v0
  refine Af (Em isAgg93 hgl9) (k := ?_)
  refine A6 ?_
  refine aD ?_
  refine A8 ?_
  refine Rg ?_
  refine Aa results23 (Bw.agg isAgg26 sizeOf26 rfl me rfl z0) (fun w1 hw1 => ?_)
  exact ⟨none, 0, [], (rq (((hF.neg hq1).neg hq4).pos hq7)), (hw1.fresh_out.sub Mo), (rn (((hF.neg hq1).neg hq4).pos hq7)), (rl (((hF.neg hq1).neg hq4).pos hq7))⟩
 refine lN ?_
 refine Hz ?_
 refine Rj ?_
 refine Bi rfl (fun hq10 => ?_) (fun hq10 => ?_)
 rotate_left
 ·refine Cg ?_
  refine iK ?_
  refine Yp ?_
  refine vS ?_
  refine L9 ?_
  refine aF ?_
  refine iM ?_
  refine Sd ?_
  refine rI ?_
  refine Z4 ?_
  refine Aa results23 (Bw.agg isAgg26 sizeOf26 rfl me rfl z0) (fun w1 hw1 => ?_)
  exact ⟨none, 0, [], (rq ((((hF.neg hq1).neg hq4).neg hq7).neg hq10)), (hw1.fresh_out.sub Mo), (rn ((((hF.neg hq1).neg hq4).neg hq7).neg hq10)), (rl ((((hF.neg hq1).neg hq4).neg hq7).neg hq10))⟩
 refine Z3 ?_
 refine L7 ?_
 refine L9 ?_
 refine Mp ?_
 refine iM ?_
 refine rQ ?_
 obtain ⟨Thgl11, fhgl11, hgl11⟩ := hE.v0
 refine Af (Em isAgg93 hgl11) (k := ?_)
 refine rU ?_
 refine Ib ?_
 obtain ⟨Thgl12, fhgl12, hgl12⟩ := hE.v0
 refine Af (Em isAgg93 hgl12) (k := ?_)
 refine A6 ?_
 refine aD ?_
 refine A8 ?_
 refine Rg ?_
 refine Aa results23 (Bw.agg isAgg26 sizeOf26 rfl me rfl z0) (fun w1 hw1 => ?_)
 exact ⟨none, 0, [], (rq ((((hF.neg hq1).neg hq4).neg hq7).pos hq10)), (hw1.fresh_out.sub Mo), (rn ((((hF.neg hq1).neg hq4).neg hq7).pos hq10)), (rl ((((hF.neg hq1).neg hq4).neg hq7).pos hq10))⟩

theorem gA (w : World) {l_a : Option Addr} {l_c : Nat} {l : List Int} (h_l : Sl w eI 1 l_a l) (n_l : l.length ≤ 1000) : Ha Tryz.prog 65 [(vs l_a l.length l_c)] w (Value.bool (Eg l)) := by
 have hF := Is.refl (Eg l)
 refine Sq func65 ntmps65 (h := ?_)
 refine Z2 ?_
 refine Ak Ag z65 (k := fun r1 hr1 => ?_)
 refine Od ?_
 refine Ak Ag z64 (k := fun r2 hr2 => ?_)
 refine C1 ?_
 refine Z3 ?_
 refine Bq (args := [_]) (Ac call60) func60 ntmps60 ?_
 refine Z2 ?_
 refine Ak Ag z31 (k := fun r3 hr3 => ?_)
 refine aE ?_
 refine Bd results60 z0 ?_
 refine Nj ?_
 refine Fx Ag rfl call113 func113 ntmps113 (fun l4 rD4 rr4 hl4 => ?_)
 refine M5 ?_
 refine lJ ?_
 refine Yk ?_
 refine Il (σ1 := Nat) (σ2 := Nat) (σ3 := Int) (fun n_3 x_1 x_2 => ((l4, Cr rr4 .ready none) :: ((rD4, Obj.deferred (some [])) :: ((r3, oc [(vs l_a l.length l_c)] 24) :: ((r2, oc [(vi x_2)] 3) :: ((r1, oc [(Value.bool false)] 4) :: [])))))) (fun n_3 x_1 x_2 => [(0, (Value.func (.yield l4) [].toArray [].toArray)), (5, (vs l_a l.length l_c)), (6, (vi ((l.length : Nat) : Int))), (7, (vi ((x_1 : Nat) : Int)))]) (fun n_3 x_1 x_2 => l.length - x_1 < n_3 ∧ Is (Eo l (l.length + 1) 0 0) (Eo l n_3 x_1 x_2) ∧ x_1 ≤ l.length) (fun n_3 x_1 x_2 => n_3) (l.length + 1) 0 0 ?_ se (List.Perm.refl _) ?_
 ·exact ⟨Nat.lt_succ_self _, Is.refl _, z7⟩
 ·rintro (_ | n_3) x_1 x_2 ⟨hm5, hF4, hi6⟩
  ·omega
  refine Zy ?_
  refine Bi rfl (fun hq1 => ?_) (fun hq1 => ?_)
  rotate_left
  ·refine Cu ?_
   refine Ko ?_
   refine Gh (.inr rfl) results113 q0 ?_
   refine aH ?_
   refine It ?_
   refine lK ?_
   refine Ao 14 rfl (fun hq3 => ?_) (fun hq3 => ?_)
   rotate_left
   ·refine Ab 3 rfl ?_
    refine Af Ft (k := ?_)
    refine rL ?_
    refine Dq [rD4] (qa q0) results65 rF (fun w1 hw1 => ?_)
    exact ⟨(rq ((hF.ok2 (hF4.neg hq1)).neg hq3)), hw1.ext_out⟩
   refine El ?_
   refine Ar z71 (k := ?_)
   refine Ar Lm (k := ?_)
   refine aK ?_
   refine rL ?_
   refine Dq [rD4] (qa q0) results65 rF (fun w1 hw1 => ?_)
   exact ⟨(rq ((hF.ok2 (hF4.neg hq1)).pos hq3)), hw1.ext_out⟩
  refine dD ?_
  refine Af (Cz (n := l.length) runUnderlying24 sizeOf3 x_1 eH (gD z4) Kc) (k := ?_)
  refine Af (Ci isAgg3 x_1 0 eH (gD z4)) (k := ?_)
  refine Ji ?_
  refine Ly (vs := [(vi (l.getD x_1 default))]) hl4 q0 Dw ?_
  refine Cp ?_
  refine Mj ?_
  refine cV ?_
  refine fL ?_
  refine It ?_
  refine Af Lm (k := ?_)
  refine Z0 ?_
  refine Bi rfl (fun hq2 => ?_) (fun hq2 => ?_)
  rotate_left
  ·refine Cg ?_
   refine Du ?_
   refine Jt ?_
   refine AH8 ?_
   refine Fu q0 ?_
   refine Rf ?_
   refine Sh ?_
   exact Ga n_3 (x_1 + 1) (l.getD x_1 default) ⟨by omega, ((hF4.pos hq1).neg hq2), z3⟩ (Nat.lt_succ_self _) se (List.Perm.refl _)
  refine Z2 ?_
  refine lP ?_
  refine Rm ?_
  refine Gc q0 ?_
  refine Mp ?_
  refine pA ?_
  refine Ko ?_
  refine wV (.inr rfl) results113 q0 ?_
  refine iZ ?_
  refine Z7 ?_
  refine Dq [rD4] (qa q0) results65 rF (fun w1 hw1 => ?_)
  exact ⟨(rq (hF.er2 ((hF4.pos hq1).pos hq2))), hw1.ext_out⟩

theorem Pv (w : World) {s_opn_a : Option Addr} {s_opn_c : Nat} {s : Session} (h_s_opn : Sl w eI 1 s_opn_a s.opn) (n_s_opn : s.opn.length ≤ 1000) : Ha Tryz.prog 22 [(Value.agg [(vi s.phase), (vt s.name), (vi s.handle.slot), (vi s.handle.gen), (vi s.a), (vi s.b), (vs s_opn_a s.opn.length s_opn_c)].toArray)] w (Value.bool (Fv s)) := by
 have hF := Is.refl (Fv s)
 refine enter func22 ntmps22 (h := ?_)
 refine Z2 ?_
 refine Ak Ag oH (k := fun r1 hr1 => ?_)
 refine Ik ?_
 refine yW (σ1 := Bool) (σ2 := Bool) (σ3 := Bool) (σ4 := Nat) (fun ok_1 x_2 x_3 r162 => ((r162, oc [(Value.bool x_2), (Value.bool x_3)] 136) :: ((r1, oc [(vi s.phase), (vt s.name), (vi s.handle.slot), (vi s.handle.gen), (vi s.a), (vi s.b), (vs s_opn_a s.opn.length s_opn_c)] 26) :: []))) (fun ok_1 x_2 x_3 r162 => [(1, (Value.pointer (some ⟨r1, 0, none⟩))), (2, (Value.bool false)), (3, (Value.pointer (some ⟨r162, 0, none⟩))), (4, (Value.bool ok_1))]) (fun ok_1 x_2 x_3 r162 => Is (Is.xr3 hF) (ok_1, x_2, x_3)) ?_ ?_
 ·skip
  refine Xx (V := []) mixed 10 z2 ?_
  refine Ct 1 rfl z2 z75 (k := ?_)
  refine Ct 2 rfl z2 J9 (k := ?_)
  refine Cc [0, 7] z2 rfl (List.forall_mem_cons.2 ⟨?_, (List.forall_mem_cons.2 ⟨?_, nofun⟩)⟩)
  ·skip
   refine E1 rfl (Ac call63) (fun w1 hw1 => eU w1) (k := ?_)
   rintro w1_21 e1_21 w2_21 hw1_21 ⟨rm_21, em_21, km_21, he_21, hf_21, hm_21⟩
   refine ⟨_, _, _, he_21, hf_21, rfl, ?_⟩
   by_cases hq1 : s.phase = 0
   ·refine Ct 3 rfl z2 (Dm (l := ([(0, (Value.agg [(Value.bool false), (Value.bool false)].toArray)), (1, (Value.agg [(Value.bool true), (Value.bool false)].toArray)), (2, (Value.agg [(Value.bool true), (Value.bool true)].toArray)), (3, (Value.agg [(Value.bool false), (Value.bool false)].toArray))] : List (Int × Value))) (v := (Value.agg [(Value.bool false), (Value.bool false)].toArray)) s.phase Cf runUnderlying138 runUnderlying3 zeroValue136 hm_21 (Co hq1.symm)) (k := ?_)
    refine Lh ?_
    refine Cc [7] z2 rfl (List.forall_mem_cons.2 ⟨?_, nofun⟩)
    ·skip
     refine Jp rfl Ag z76 (k := fun r162 hr162 => ?_)
     refine Cc [8] z2 rfl (List.forall_mem_cons.2 ⟨?_, nofun⟩)
     ·skip
      refine lA ?_
      refine iL ?_
      exact Dn true false false r162 ((Is.refl (Is.xr3 hF)).pos hq1) se (List.Perm.refl _)
   by_cases hq2 : s.phase = 1
   ·refine Ct 3 rfl z2 (Dm (l := ([(0, (Value.agg [(Value.bool false), (Value.bool false)].toArray)), (1, (Value.agg [(Value.bool true), (Value.bool false)].toArray)), (2, (Value.agg [(Value.bool true), (Value.bool true)].toArray)), (3, (Value.agg [(Value.bool false), (Value.bool false)].toArray))] : List (Int × Value))) (v := (Value.agg [(Value.bool true), (Value.bool false)].toArray)) s.phase Cf runUnderlying138 runUnderlying3 zeroValue136 hm_21 ((Ai (fun e => hq1 e.symm)).trans (Co hq2.symm))) (k := ?_)
    refine Lh ?_
    refine Cc [7] z2 rfl (List.forall_mem_cons.2 ⟨?_, nofun⟩)
    ·skip
     refine Jp rfl Ag z76 (k := fun r162 hr162 => ?_)
     refine Cc [8] z2 rfl (List.forall_mem_cons.2 ⟨?_, nofun⟩)
     ·skip
      refine lA ?_
      refine iL ?_
      exact Dn true true false r162 (((Is.refl (Is.xr3 hF)).neg hq1).pos hq2) se (List.Perm.refl _)
   by_cases hq3 : s.phase = 2
   ·refine Ct 3 rfl z2 (Dm (l := ([(0, (Value.agg [(Value.bool false), (Value.bool false)].toArray)), (1, (Value.agg [(Value.bool true), (Value.bool false)].toArray)), (2, (Value.agg [(Value.bool true), (Value.bool true)].toArray)), (3, (Value.agg [(Value.bool false), (Value.bool false)].toArray))] : List (Int × Value))) (v := (Value.agg [(Value.bool true), (Value.bool true)].toArray)) s.phase Cf runUnderlying138 runUnderlying3 zeroValue136 hm_21 ((Ai (fun e => hq1 e.symm)).trans ((Ai (fun e => hq2 e.symm)).trans (Co hq3.symm)))) (k := ?_)
    refine Lh ?_
    refine Cc [7] z2 rfl (List.forall_mem_cons.2 ⟨?_, nofun⟩)
    ·skip
     refine Jp rfl Ag z76 (k := fun r162 hr162 => ?_)
     refine Cc [8] z2 rfl (List.forall_mem_cons.2 ⟨?_, nofun⟩)
     ·skip
      refine lA ?_
      refine iL ?_
      exact Dn true true true r162 ((((Is.refl (Is.xr3 hF)).neg hq1).neg hq2).pos hq3) se (List.Perm.refl _)
   by_cases hq4 : s.phase = 3
   ·refine Ct 3 rfl z2 (Dm (l := ([(0, (Value.agg [(Value.bool false), (Value.bool false)].toArray)), (1, (Value.agg [(Value.bool true), (Value.bool false)].toArray)), (2, (Value.agg [(Value.bool true), (Value.bool true)].toArray)), (3, (Value.agg [(Value.bool false), (Value.bool false)].toArray))] : List (Int × Value))) (v := (Value.agg [(Value.bool false), (Value.bool false)].toArray)) s.phase Cf runUnderlying138 runUnderlying3 zeroValue136 hm_21 ((Ai (fun e => hq1 e.symm)).trans ((Ai (fun e => hq2 e.symm)).trans ((Ai (fun e => hq3 e.symm)).trans (Co hq4.symm))))) (k := ?_)
    refine Lh ?_
    refine Cc [7] z2 rfl (List.forall_mem_cons.2 ⟨?_, nofun⟩)
    ·skip
     refine Jp rfl Ag z76 (k := fun r162 hr162 => ?_)
     refine Cc [8] z2 rfl (List.forall_mem_cons.2 ⟨?_, nofun⟩)
     ·skip
      refine lA ?_
      refine iL ?_
      exact Dn true false false r162 (((((Is.refl (Is.xr3 hF)).neg hq1).neg hq2).neg hq3).pos hq4) se (List.Perm.refl _)
   refine Ct 3 rfl z2 (St (l := ([(0, (Value.agg [(Value.bool false), (Value.bool false)].toArray)), (1, (Value.agg [(Value.bool true), (Value.bool false)].toArray)), (2, (Value.agg [(Value.bool true), (Value.bool true)].toArray)), (3, (Value.agg [(Value.bool false), (Value.bool false)].toArray))] : List (Int × Value))) s.phase Cf runUnderlying138 runUnderlying3 zeroValue136 hm_21 ((Ai (fun e => hq1 e.symm)).trans ((Ai (fun e => hq2 e.symm)).trans ((Ai (fun e => hq3 e.symm)).trans ((Ai (fun e => hq4 e.symm)).trans Lz))))) (k := ?_)
   refine Lh ?_
   refine Cc [7] z2 rfl (List.forall_mem_cons.2 ⟨?_, nofun⟩)
   ·skip
    refine Jp rfl Ag z76 (k := fun r162 hr162 => ?_)
    refine Cc [8] z2 rfl (List.forall_mem_cons.2 ⟨?_, nofun⟩)
    ·skip
     refine lA ?_
     refine iL ?_
     exact Dn false false false r162 (((((Is.refl (Is.xr3 hF)).neg hq1).neg hq2).neg hq3).neg hq4) se (List.Perm.refl _)
  ·skip
   refine Jp rfl Ag z76 (k := fun r162 hr162 => ?_)
   refine Cc [0] z2 rfl (List.forall_mem_cons.2 ⟨?_, nofun⟩)
   ·skip
    refine E1 rfl (Ac call63) (fun w1 hw1 => eU w1) (k := ?_)
    rintro w1_21 e1_21 w2_21 hw1_21 ⟨rm_21, em_21, km_21, he_21, hf_21, hm_21⟩
    refine ⟨_, _, _, he_21, hf_21, rfl, ?_⟩
    by_cases hq5 : s.phase = 0
    ·refine Ct 3 rfl z2 (Dm (l := ([(0, (Value.agg [(Value.bool false), (Value.bool false)].toArray)), (1, (Value.agg [(Value.bool true), (Value.bool false)].toArray)), (2, (Value.agg [(Value.bool true), (Value.bool true)].toArray)), (3, (Value.agg [(Value.bool false), (Value.bool false)].toArray))] : List (Int × Value))) (v := (Value.agg [(Value.bool false), (Value.bool false)].toArray)) s.phase Cf runUnderlying138 runUnderlying3 zeroValue136 hm_21 (Co hq5.symm)) (k := ?_)
     refine Lh ?_
     refine Cc [8] z2 rfl (List.forall_mem_cons.2 ⟨?_, nofun⟩)
     ·skip
      refine lA ?_
      refine iL ?_
      exact Dn true false false r162 ((Is.refl (Is.xr3 hF)).pos hq5) se (List.Perm.refl _)
    by_cases hq6 : s.phase = 1
    ·refine Ct 3 rfl z2 (Dm (l := ([(0, (Value.agg [(Value.bool false), (Value.bool false)].toArray)), (1, (Value.agg [(Value.bool true), (Value.bool false)].toArray)), (2, (Value.agg [(Value.bool true), (Value.bool true)].toArray)), (3, (Value.agg [(Value.bool false), (Value.bool false)].toArray))] : List (Int × Value))) (v := (Value.agg [(Value.bool true), (Value.bool false)].toArray)) s.phase Cf runUnderlying138 runUnderlying3 zeroValue136 hm_21 ((Ai (fun e => hq5 e.symm)).trans (Co hq6.symm))) (k := ?_)
     refine Lh ?_
     refine Cc [8] z2 rfl (List.forall_mem_cons.2 ⟨?_, nofun⟩)
     ·skip
      refine lA ?_
      refine iL ?_
      exact Dn true true false r162 (((Is.refl (Is.xr3 hF)).neg hq5).pos hq6) se (List.Perm.refl _)
    by_cases hq7 : s.phase = 2
    ·refine Ct 3 rfl z2 (Dm (l := ([(0, (Value.agg [(Value.bool false), (Value.bool false)].toArray)), (1, (Value.agg [(Value.bool true), (Value.bool false)].toArray)), (2, (Value.agg [(Value.bool true), (Value.bool true)].toArray)), (3, (Value.agg [(Value.bool false), (Value.bool false)].toArray))] : List (Int × Value))) (v := (Value.agg [(Value.bool true), (Value.bool true)].toArray)) s.phase Cf runUnderlying138 runUnderlying3 zeroValue136 hm_21 ((Ai (fun e => hq5 e.symm)).trans ((Ai (fun e => hq6 e.symm)).trans (Co hq7.symm)))) (k := ?_)
     refine Lh ?_
     refine Cc [8] z2 rfl (List.forall_mem_cons.2 ⟨?_, nofun⟩)
     ·skip
      refine lA ?_
      refine iL ?_
      exact Dn true true true r162 ((((Is.refl (Is.xr3 hF)).neg hq5).neg hq6).pos hq7) se (List.Perm.refl _)
    by_cases hq8 : s.phase = 3
    ·refine Ct 3 rfl z2 (Dm (l := ([(0, (Value.agg [(Value.bool false), (Value.bool false)].toArray)), (1, (Value.agg [(Value.bool true), (Value.bool false)].toArray)), (2, (Value.agg [(Value.bool true), (Value.bool true)].toArray)), (3, (Value.agg [(Value.bool false), (Value.bool false)].toArray))] : List (Int × Value))) (v := (Value.agg [(Value.bool false), (Value.bool false)].toArray)) s.phase Cf runUnderlying138 runUnderlying3 zeroValue136 hm_21 ((Ai (fun e => hq5 e.symm)).trans ((Ai (fun e => hq6 e.symm)).trans ((Ai (fun e => hq7 e.symm)).trans (Co hq8.symm))))) (k := ?_)
     refine Lh ?_
     refine Cc [8] z2 rfl (List.forall_mem_cons.2 ⟨?_, nofun⟩)
     ·skip
      refine lA ?_
      refine iL ?_
      exact Dn true false false r162 (((((Is.refl (Is.xr3 hF)).neg hq5).neg hq6).neg hq7).pos hq8) se (List.Perm.refl _)
    refine Ct 3 rfl z2 (St (l := ([(0, (Value.agg [(Value.bool false), (Value.bool false)].toArray)), (1, (Value.agg [(Value.bool true), (Value.bool false)].toArray)), (2, (Value.agg [(Value.bool true), (Value.bool true)].toArray)), (3, (Value.agg [(Value.bool false), (Value.bool false)].toArray))] : List (Int × Value))) s.phase Cf runUnderlying138 runUnderlying3 zeroValue136 hm_21 ((Ai (fun e => hq5 e.symm)).trans ((Ai (fun e => hq6 e.symm)).trans ((Ai (fun e => hq7 e.symm)).trans ((Ai (fun e => hq8 e.symm)).trans Lz))))) (k := ?_)
    refine Lh ?_
    refine Cc [8] z2 rfl (List.forall_mem_cons.2 ⟨?_, nofun⟩)
    ·skip
     refine lA ?_
     refine iL ?_
     exact Dn false false false r162 (((((Is.refl (Is.xr3 hF)).neg hq5).neg hq6).neg hq7).neg hq8) se (List.Perm.refl _)
 intro ok_1 x_2 x_3 r162 hJ4
 refine Du ?_
 refine Z2 ?_
 refine pF ?_
 refine rS ?_
 refine lK ?_
 refine Ao 18 rfl (fun hq9 => ?_) (fun hq9 => ?_)
 rotate_left
 ·refine Ab 6 rfl ?_
  refine Af Ft (k := ?_)
  refine Kt ?_
  refine Af (Al Wx) (k := ?_)
  refine Af z51 (k := ?_)
  refine O1 ?_
  refine Af z81 (k := ?_)
  refine Ck ?_
  refine Ao 30 rfl (fun hq26 => ?_) (fun hq26 => ?_)
  rotate_left
  ·refine Ab 4 rfl ?_
   refine Af Ft (k := ?_)
   refine Ji ?_
   refine Bo 37 rfl (fun hq32 => ?_) (fun hq32 => ?_)
   rotate_left
   ·refine Ab 6 rfl ?_
    refine Z5 ?_
    refine L8 ?_
    refine Aa results22 z0 (fun w1 hw1 => ?_)
    exact ⟨(rq ((((hF.rn3 hJ4).neg hq9).neg hq26).f hq32)), hw1.ext_out⟩
   refine oO ?_
   refine oP ?_
   refine mL Ag z47 (k := fun r228 hr228 => ?_)
   refine AF7 ?_
   refine Ak Ag z31 (k := fun r229 hr229 => ?_)
   refine sD ?_
   refine Ji ?_
   refine B0 ?_
   refine Hp ?_
   refine vK ?_
   refine Yk ?_
   refine rO ?_
   refine iN ?_
   refine M9 ?_
   refine lB ?_
   refine iS ?_
   refine Ao 6 rfl (fun hq33 => ?_) (fun hq33 => ?_)
   ·refine Ab 3 rfl ?_
    refine Ot ?_
    refine Rj ?_
    refine Tv ?_
    refine Xh ?_
    refine Aa results22 z0 (fun w1 hw1 => ?_)
    exact ⟨(rq (((((hF.rn3 hJ4).neg hq9).neg hq26).t hq32).pos hq33)), hw1.ext_out⟩
   refine lN ?_
   refine Hz ?_
   refine Rj ?_
   refine Bi rfl (fun hq34 => ?_) (fun hq34 => ?_)
   ·refine Cb ?_
    refine Jt ?_
    refine Xh ?_
    refine Aa results22 z0 (fun w1 hw1 => ?_)
    exact ⟨(rq ((((((hF.rn3 hJ4).neg hq9).neg hq26).t hq32).neg hq33).pos hq34)), hw1.ext_out⟩
   refine Cg ?_
   refine fQ ?_
   refine N0 ?_
   refine lB ?_
   refine iS ?_
   refine Ao 6 rfl (fun hq35 => ?_) (fun hq35 => ?_)
   ·refine Ab 3 rfl ?_
    refine Ot ?_
    refine Rj ?_
    refine Tv ?_
    refine Xh ?_
    refine Aa results22 z0 (fun w1 hw1 => ?_)
    exact ⟨(rq (((((((hF.rn3 hJ4).neg hq9).neg hq26).t hq32).neg hq33).neg hq34).pos hq35)), hw1.ext_out⟩
   refine lN ?_
   refine Hz ?_
   refine Rj ?_
   refine Bi rfl (fun hq36 => ?_) (fun hq36 => ?_)
   ·refine Cb ?_
    refine Jt ?_
    refine Xh ?_
    refine Aa results22 z0 (fun w1 hw1 => ?_)
    exact ⟨(rq ((((((((hF.rn3 hJ4).neg hq9).neg hq26).t hq32).neg hq33).neg hq34).neg hq35).pos hq36)), hw1.ext_out⟩
   refine cY ?_
   refine vS ?_
   refine M0 ?_
   refine wD ?_
   refine Ab 5 rfl ?_
   refine Yn ?_
   refine Aa results22 z0 (fun w1 hw1 => ?_)
   exact ⟨(rq ((((((((hF.rn3 hJ4).neg hq9).neg hq26).t hq32).neg hq33).neg hq34).neg hq35).neg hq36)), hw1.ext_out⟩
  refine Tu ?_
  refine dF ?_
  refine aK ?_
  refine Ji ?_
  refine Bo 37 rfl (fun hq27 => ?_) (fun hq27 => ?_)
  rotate_left
  ·refine Ab 6 rfl ?_
   refine Z5 ?_
   refine L8 ?_
   refine Aa results22 z0 (fun w1 hw1 => ?_)
   exact ⟨(rq ((((hF.rn3 hJ4).neg hq9).pos hq26).f hq27)), hw1.ext_out⟩
  refine oO ?_
  refine oP ?_
  refine mL Ag z47 (k := fun r226 hr226 => ?_)
  refine AF7 ?_
  refine Ak Ag z31 (k := fun r227 hr227 => ?_)
  refine sD ?_
  refine Ji ?_
  refine B0 ?_
  refine Hp ?_
  refine vK ?_
  refine Yk ?_
  refine rO ?_
  refine iN ?_
  refine M9 ?_
  refine lB ?_
  refine iS ?_
  refine Ao 6 rfl (fun hq28 => ?_) (fun hq28 => ?_)
  ·refine Ab 3 rfl ?_
   refine Ot ?_
   refine Rj ?_
   refine Tv ?_
   refine Xh ?_
   refine Aa results22 z0 (fun w1 hw1 => ?_)
   exact ⟨(rq (((((hF.rn3 hJ4).neg hq9).pos hq26).t hq27).pos hq28)), hw1.ext_out⟩
  refine lN ?_
  refine Hz ?_
  refine Rj ?_
  refine Bi rfl (fun hq29 => ?_) (fun hq29 => ?_)
  ·refine Cb ?_
   refine Jt ?_
   refine Xh ?_
   refine Aa results22 z0 (fun w1 hw1 => ?_)
   exact ⟨(rq ((((((hF.rn3 hJ4).neg hq9).pos hq26).t hq27).neg hq28).pos hq29)), hw1.ext_out⟩
  refine Cg ?_
  refine fQ ?_
  refine N0 ?_
  refine lB ?_
  refine iS ?_
  refine Ao 6 rfl (fun hq30 => ?_) (fun hq30 => ?_)
  ·refine Ab 3 rfl ?_
   refine Ot ?_
   refine Rj ?_
   refine Tv ?_
   refine Xh ?_
   refine Aa results22 z0 (fun w1 hw1 => ?_)
   exact ⟨(rq (((((((hF.rn3 hJ4).neg hq9).pos hq26).t hq27).neg hq28).neg hq29).pos hq30)), hw1.ext_out⟩
  refine lN ?_
  refine Hz ?_
  refine Rj ?_
  refine Bi rfl (fun hq31 => ?_) (fun hq31 => ?_)
  ·refine Cb ?_
   refine Jt ?_
   refine Xh ?_
   refine Aa results22 z0 (fun w1 hw1 => ?_)
   exact ⟨(rq ((((((((hF.rn3 hJ4).neg hq9).pos hq26).t hq27).neg hq28).neg hq29).neg hq30).pos hq31)), hw1.ext_out⟩
  refine cY ?_
  refine vS ?_
  refine M0 ?_
  refine wD ?_
  refine Ab 5 rfl ?_
  refine Yn ?_
  refine Aa results22 z0 (fun w1 hw1 => ?_)
  exact ⟨(rq ((((((((hF.rn3 hJ4).neg hq9).pos hq26).t hq27).neg hq28).neg hq29).neg hq30).neg hq31)), hw1.ext_out⟩
 refine oQ ?_
 refine Ar tG (k := ?_)
 refine Ar (Al X8) (k := ?_)
 refine Ar (Bm isAgg4) (k := ?_)
 refine Ar (pI runUnderlying4) (k := ?_)
 refine aK ?_
 refine Kt ?_
 refine Af (Al Wx) (k := ?_)
 refine Af z51 (k := ?_)
 refine O1 ?_
 refine Af z81 (k := ?_)
 refine Ck ?_
 refine Ao 30 rfl (fun hq10 => ?_) (fun hq10 => ?_)
 rotate_left
 ·refine Ab 4 rfl ?_
  refine Af Ft (k := ?_)
  refine Ji ?_
  refine Bo 37 rfl (fun hq19 => ?_) (fun hq19 => ?_)
  rotate_left
  ·refine Ab 6 rfl ?_
   refine Z5 ?_
   refine L8 ?_
   refine Aa results22 z0 (fun w1 hw1 => ?_)
   exact ⟨(rq ((((hF.rn3 hJ4).pos hq9).neg hq10).f hq19)), hw1.ext_out⟩
  refine oO ?_
  refine oP ?_
  refine mL Ag z47 (k := fun r224 hr224 => ?_)
  refine AF7 ?_
  refine Ak Ag z31 (k := fun r225 hr225 => ?_)
  refine sD ?_
  refine Ji ?_
  refine B0 ?_
  refine Hp ?_
  refine vK ?_
  refine Yk ?_
  refine rO ?_
  refine iN ?_
  refine M9 ?_
  refine lB ?_
  refine iS ?_
  refine Ao 6 rfl (fun hq20 => ?_) (fun hq20 => ?_)
  ·refine Ab 3 rfl ?_
   refine Ot ?_
   refine Rj ?_
   refine Tv ?_
   refine Xh ?_
   refine Aa results22 z0 (fun w1 hw1 => ?_)
   exact ⟨(rq (((((hF.rn3 hJ4).pos hq9).neg hq10).t hq19).pos hq20)), hw1.ext_out⟩
  refine lN ?_
  refine Hz ?_
  refine Rj ?_
  refine Bi rfl (fun hq21 => ?_) (fun hq21 => ?_)
  ·refine Cb ?_
   refine Jt ?_
   refine Xh ?_
   refine Aa results22 z0 (fun w1 hw1 => ?_)
   exact ⟨(rq ((((((hF.rn3 hJ4).pos hq9).neg hq10).t hq19).neg hq20).pos hq21)), hw1.ext_out⟩
  refine Cg ?_
  refine fQ ?_
  refine N0 ?_
  refine lB ?_
  refine iS ?_
  refine Ao 6 rfl (fun hq22 => ?_) (fun hq22 => ?_)
  ·refine Ab 3 rfl ?_
   refine Ot ?_
   refine Rj ?_
   refine Tv ?_
   refine Xh ?_
   refine Aa results22 z0 (fun w1 hw1 => ?_)
   exact ⟨(rq (((((((hF.rn3 hJ4).pos hq9).neg hq10).t hq19).neg hq20).neg hq21).pos hq22)), hw1.ext_out⟩
  refine lN ?_
  refine Hz ?_
  refine Rj ?_
  refine Bi rfl (fun hq23 => ?_) (fun hq23 => ?_)
  ·refine Cb ?_
   refine Jt ?_
   refine Xh ?_
   refine Aa results22 z0 (fun w1 hw1 => ?_)
   exact ⟨(rq ((((((((hF.rn3 hJ4).pos hq9).neg hq10).t hq19).neg hq20).neg hq21).neg hq22).pos hq23)), hw1.ext_out⟩
  refine cY ?_
  refine vS ?_
  refine M0 ?_
  refine wD ?_
  refine Bo 48 rfl (fun hq24 => ?_) (fun hq24 => ?_)
  rotate_left
  ·refine Ab 5 rfl ?_
   refine Yn ?_
   refine Aa results22 z0 (fun w1 hw1 => ?_)
   exact ⟨(rq (((((((((hF.rn3 hJ4).pos hq9).neg hq10).t hq19).neg hq20).neg hq21).neg hq22).neg hq23).f hq24)), hw1.ext_out⟩
  refine Ar (Al uQ) (k := ?_)
  refine Ar (Bm isAgg4) (k := ?_)
  refine El ?_
  refine Bo 51 rfl (fun hq25 => ?_) (fun hq25 => ?_)
  rotate_left
  ·refine Ar Gf (k := ?_)
   refine Ys ?_
   refine fH ?_
   refine Hz ?_
   refine Aa results22 z0 (fun w1 hw1 => ?_)
   exact ⟨(rq ((((((((((hF.rn3 hJ4).pos hq9).neg hq10).t hq19).neg hq20).neg hq21).neg hq22).neg hq23).t hq24).f hq25)), hw1.ext_out⟩
  refine Qe (k := ?_)
  refine Xj ?_
  refine Jh ?_
  refine AU8 ?_
  refine Ot ?_
  refine Aa results22 z0 (fun w1 hw1 => ?_)
  exact ⟨(rq ((((((((((hF.rn3 hJ4).pos hq9).neg hq10).t hq19).neg hq20).neg hq21).neg hq22).neg hq23).t hq24).t hq25)), hw1.ext_out⟩
 refine Tu ?_
 refine dF ?_
 refine aK ?_
 refine Ji ?_
 refine Bo 37 rfl (fun hq11 => ?_) (fun hq11 => ?_)
 rotate_left
 ·refine Ab 6 rfl ?_
  refine Z5 ?_
  refine L8 ?_
  refine Aa results22 z0 (fun w1 hw1 => ?_)
  exact ⟨(rq ((((hF.rn3 hJ4).pos hq9).pos hq10).f hq11)), hw1.ext_out⟩
 refine oO ?_
 refine oP ?_
 refine mL Ag z47 (k := fun r222 hr222 => ?_)
 refine AF7 ?_
 refine Ak Ag z31 (k := fun r223 hr223 => ?_)
 refine sD ?_
 refine Ji ?_
 refine B0 ?_
 refine Hp ?_
 refine vK ?_
 refine Yk ?_
 refine rO ?_
 refine iN ?_
 refine M9 ?_
 refine lB ?_
 refine iS ?_
 refine Ao 6 rfl (fun hq12 => ?_) (fun hq12 => ?_)
 ·refine Ab 3 rfl ?_
  refine Ot ?_
  refine Rj ?_
  refine Tv ?_
  refine Xh ?_
  refine Aa results22 z0 (fun w1 hw1 => ?_)
  exact ⟨(rq (((((hF.rn3 hJ4).pos hq9).pos hq10).t hq11).pos hq12)), hw1.ext_out⟩
 refine lN ?_
 refine Hz ?_
 refine Rj ?_
 refine Bi rfl (fun hq13 => ?_) (fun hq13 => ?_)
 ·refine Cb ?_
  refine Jt ?_
  refine Xh ?_
  refine Aa results22 z0 (fun w1 hw1 => ?_)
  exact ⟨(rq ((((((hF.rn3 hJ4).pos hq9).pos hq10).t hq11).neg hq12).pos hq13)), hw1.ext_out⟩
 refine Cg ?_
 refine fQ ?_
 refine N0 ?_
 refine lB ?_
 refine iS ?_
 refine Ao 6 rfl (fun hq14 => ?_) (fun hq14 => ?_)
 ·refine Ab 3 rfl ?_
  refine Ot ?_
  refine Rj ?_
  refine Tv ?_
  refine Xh ?_
  refine Aa results22 z0 (fun w1 hw1 => ?_)
  exact ⟨(rq (((((((hF.rn3 hJ4).pos hq9).pos hq10).t hq11).neg hq12).neg hq13).pos hq14)), hw1.ext_out⟩
 refine lN ?_
 refine Hz ?_
 refine Rj ?_
 refine Bi rfl (fun hq15 => ?_) (fun hq15 => ?_)
 ·refine Cb ?_
  refine Jt ?_
  refine Xh ?_
  refine Aa results22 z0 (fun w1 hw1 => ?_)
  exact ⟨(rq ((((((((hF.rn3 hJ4).pos hq9).pos hq10).t hq11).neg hq12).neg hq13).neg hq14).pos hq15)), hw1.ext_out⟩
 refine cY ?_
 refine vS ?_
 refine M0 ?_
 refine wD ?_
 refine Bo 48 rfl (fun hq16 => ?_) (fun hq16 => ?_)
 rotate_left
 ·refine Ab 5 rfl ?_
  refine Yn ?_
  refine Aa results22 z0 (fun w1 hw1 => ?_)
  exact ⟨(rq (((((((((hF.rn3 hJ4).pos hq9).pos hq10).t hq11).neg hq12).neg hq13).neg hq14).neg hq15).f hq16)), hw1.ext_out⟩
 refine Ar (Al uQ) (k := ?_)
 refine Ar (Bm isAgg4) (k := ?_)
 refine El ?_
 refine Bo 51 rfl (fun hq17 => ?_) (fun hq17 => ?_)
 ·refine Qe (k := ?_)
  refine Xj ?_
  refine Jh ?_
  refine AU8 ?_
  refine Ot ?_
  refine Aa results22 z0 (fun w1 hw1 => ?_)
  exact ⟨(rq ((((((((((hF.rn3 hJ4).pos hq9).pos hq10).t hq11).neg hq12).neg hq13).neg hq14).neg hq15).t hq16).t hq17)), hw1.ext_out⟩
 refine El ?_
 refine Ys ?_
 refine Jh ?_
 refine Ao 55 rfl (fun hq18 => ?_) (fun hq18 => ?_)
 rotate_left
 ·refine Ab 3 rfl ?_
  refine Hz ?_
  refine Aa results22 z0 (fun w1 hw1 => ?_)
  exact ⟨(rq (((((((((((hF.rn3 hJ4).pos hq9).pos hq10).t hq11).neg hq12).neg hq13).neg hq14).neg hq15).t hq16).f hq17).neg hq18)), hw1.ext_out⟩
 refine AU8 ?_
 refine Ot ?_
 refine Aa results22 z0 (fun w1 hw1 => ?_)
 exact ⟨(rq (((((((((((hF.rn3 hJ4).pos hq9).pos hq10).t hq11).neg hq12).neg hq13).neg hq14).neg hq15).t hq16).f hq17).pos hq18)), hw1.ext_out⟩

theorem Ld (w : World) {s_opn_a : Option Addr} {s_opn_c : Nat} {s : Session} {stream : Int} (h_s_opn : Sl w eI 1 s_opn_a s.opn) (n_s_opn : s.opn.length ≤ 1000) : Ha Tryz.prog 20 [(Value.agg [(vi s.phase), (vt s.name), (vi s.handle.slot), (vi s.handle.gen), (vi s.a), (vi s.b), (vs s_opn_a s.opn.length s_opn_c)].toArray), (vi stream)] w (Value.bool (Dp s stream)) := by
 have hF := Is.refl (Dp s stream)
 refine Sq func20 ntmps20 (h := ?_)
 refine Z2 ?_
 refine Ak Ag oH (k := fun r1 hr1 => ?_)
 refine Ak Ag z31 (k := fun r2 hr2 => ?_)
 refine Ak Ag z65 (k := fun r3 hr3 => ?_)
 refine Jr ?_
 refine Z2 ?_
 refine Z72 ?_
 refine Bq (args := [_]) (Ac call60) func60 ntmps60 ?_
 refine Z2 ?_
 refine Ak Ag z31 (k := fun r4 hr4 => ?_)
 refine aE ?_
 refine Bd results60 z0 ?_
 refine Nj ?_
 refine Fx Ag rfl call113 func113 ntmps113 (fun l5 rD5 rr5 hl5 => ?_)
 refine M5 ?_
 refine lJ ?_
 refine Yk ?_
 refine Jj (σ1 := Nat) (σ2 := Nat) (fun n_2 x_1 => ((l5, Cr rr5 .ready none) :: ((rD5, Obj.deferred (some [])) :: ((r4, oc [(vs s_opn_a s.opn.length s_opn_c)] 24) :: ((r3, oc [(Value.bool false)] 4) :: ((r2, oc [(vi stream)] 3) :: ((r1, oc [(vi s.phase), (vt s.name), (vi s.handle.slot), (vi s.handle.gen), (vi s.a), (vi s.b), (vs s_opn_a s.opn.length s_opn_c)] 26) :: []))))))) (fun n_2 x_1 => [(0, (Value.func (.yield l5) [].toArray [].toArray)), (5, (vs s_opn_a s.opn.length s_opn_c)), (6, (vi ((s.opn.length : Nat) : Int))), (7, (vi ((x_1 : Nat) : Int)))]) (fun n_2 x_1 => s.opn.length - x_1 < n_2 ∧ Is (Nd s stream (s.opn.length + 1) 0) (Nd s stream n_2 x_1) ∧ x_1 ≤ s.opn.length) (fun n_2 x_1 => n_2) (s.opn.length + 1) 0 ?_ se (List.Perm.refl _) ?_
 ·exact ⟨Nat.lt_succ_self _, Is.refl _, z7⟩
 ·rintro (_ | n_2) x_1 ⟨hm4, hF3, hi5⟩
  ·omega
  refine Zy ?_
  refine Bi rfl (fun hq1 => ?_) (fun hq1 => ?_)
  rotate_left
  ·refine Cu ?_
   refine Ko ?_
   refine Gh (.inr rfl) results113 q0 ?_
   refine aH ?_
   refine rL ?_
   refine Dq [rD5] (qa q0) results20 rF (fun w1 hw1 => ?_)
   exact ⟨(rq (hF.ok1 (hF3.neg hq1))), hw1.ext_out⟩
  refine dD ?_
  refine Af (Cz (n := s.opn.length) runUnderlying24 sizeOf3 x_1 z46 (gD z4) Kc) (k := ?_)
  refine Af (Ci isAgg3 x_1 0 z46 (gD z4)) (k := ?_)
  refine Ji ?_
  refine Ly (vs := [(vi (s.opn.getD x_1 default))]) hl5 q0 Dw ?_
  refine Cp ?_
  refine Mj ?_
  refine cV ?_
  refine Z3 ?_
  refine It ?_
  refine iP ?_
  refine Bi rfl (fun hq2 => ?_) (fun hq2 => ?_)
  rotate_left
  ·refine Cg ?_
   refine Fr ?_
   refine Fu q0 ?_
   refine Rf ?_
   refine Sh ?_
   exact Hu n_2 (x_1 + 1) ⟨by omega, ((hF3.pos hq1).neg hq2), z3⟩ (Nat.lt_succ_self _) se (List.Perm.refl _)
  refine Z2 ?_
  refine rL ?_
  refine Rm ?_
  refine Gc q0 ?_
  refine Mp ?_
  refine pA ?_
  refine Ko ?_
  refine wV (.inr rfl) results113 q0 ?_
  refine iZ ?_
  refine Z7 ?_
  refine Dq [rD5] (qa q0) results20 rF (fun w1 hw1 => ?_)
  exact ⟨(rq (hF.er1 ((hF3.pos hq1).pos hq2))), hw1.ext_out⟩

end Go.Proofs.YtdnjanhdnibkfaaGreatDoor.Jd

namespace Go.Proofs.YtdnjanhdnibkfaaGreatDoor.Jd
open Go.Proofs.Tryz
open Go.Proofs
set_option linter.unusedVariables false
set_option linter.unusedSimpArgs false
theorem BB4 {x : Int} (n : Nat) (h : n ≤ 4000000000000000000) (e : x = ((n : Nat) : Int) := by omega) : IntKind.i64.wrap (Ae .u64 x 1) = ((n / 2 : Nat) : Int) := by
  subst e
  have e1 : Ae .u64 ((n : Nat) : Int) 1 = ((n : Nat) : Int) / 2 := by
    unfold Ae
    rw [show min (1 : Int).toNat IntKind.u64.bits = 1 from rfl, Int.fdiv_eq_ediv_of_nonneg _ z3]
    rfl
  rw [e1]
  have e2 : ((n : Nat) : Int) / 2 = ((n / 2 : Nat) : Int) := by omega
  rw [e2]
  exact Hh z3
theorem Re (x : List Int) (t : Int) : ∀ n i j, i ≤ j → j ≤ x.length → (Fa x t n i j).1 ≤ x.length
  | 0, i, j, h1, h2 => by show i ≤ _; omega
  | n + 1, i, j, h1, h2 => by
    unfold Fa
    by_cases h : ((i : Nat) : Int) < ((j : Nat) : Int)
    · rw [if_pos h, if_neg Ij]
      split
      · exact Re x t n _ _ z3 h2
      · exact Re x t n _ _ z3 z3
    · rw [if_neg h]; show i ≤ _; omega
theorem kN (x : List Int) (t : Int) : 0 ≤ (Gb x t).1 ∧ (Gb x t).1 ≤ x.length := by
  have h := Re x t (x.length + 1) 0 x.length z3 z3
  have e : (Gb x t).1 = (((Fa x t (x.length + 1) 0 x.length).1 : Nat) : Int) := by
    unfold Gb
    generalize Fa x t (x.length + 1) 0 x.length = y
    obtain ⟨y1, y2⟩ := y
    simp only [Iu]
    repeat' split
    all_goals first | rfl | (rename_i h; exact absurd rfl h)
  rw [e]; omega
theorem Wb (l : List Int) : ∀ n i q b, Eo l n i q = .error b → b = false
  | 0, i, q, b, h => by cases h
  | n + 1, i, q, b, h => by
    unfold Eo at h
    split at h
    · split at h
      · cases h; rfl
      · exact Wb l n _ _ b h
    · cases h
theorem kO {l : List Int} (h : Eg l = true) : l.length ≤ 8 := by
  unfold Eg at h
  cases hx : Eo l (l.length + 1) 0 0 with
  | error b =>
    rw [hx] at h
    have := Wb _ _ _ _ _ hx
    subst this; cases h
  | ok q =>
    rw [hx] at h
    obtain ⟨q1, q2⟩ := q
    simp only [Gu] at h
    split at h
    · have := of_decide_eq_true h; omega
    · cases h
theorem Ry {s : Session} (h : Fv s = true) : s.name.length ≤ 64 ∧ 0 ≤ s.a ∧ s.a ≤ 2147483647 ∧ 0 ≤ s.b ∧ s.b ≤ 2147483647 ∧ s.opn.length ≤ 8 := by
  unfold Fv at h
  generalize (if s.phase = 0 then (true, false, false) else (if s.phase = 1 then (true, true, false) else (if s.phase = 2 then (true, true, true) else (if s.phase = 3 then (true, false, false) else (false, false, false))))) = x at h
  obtain ⟨x1, x2, x3⟩ := x
  simp only [Uc] at h
  repeat' split at h
  all_goals first | (cases h; done) | skip
  all_goals have h8 := kO h
  all_goals exact ⟨by omega, by omega, by omega, by omega, by omega, h8⟩
theorem dY {f : Frame} (h : Dy f = true) : f.data.length ≤ 512 ∧ 0 ≤ f.stream ∧ f.stream ≤ 65535 := by
  unfold Dy at h
  have hx : (if f.kind = 1 then (true, 1, 64) else (if f.kind = 2 then (true, 32, 32) else (if f.kind = 3 then (true, 1, 64) else (if f.kind = 4 then (true, 1, 512) else (if f.kind = 5 then (true, 2, 2) else (if f.kind = 6 then (true, 0, 0) else (if f.kind = 7 then (true, 0, 0) else (if f.kind = 8 then (true, 0, 8) else ((false, 0, 0) : Bool × Nat × Nat))))))))).2.2 ≤ 512 := by
    repeat' split
    all_goals simp
  generalize (if f.kind = 1 then (true, 1, 64) else (if f.kind = 2 then (true, 32, 32) else (if f.kind = 3 then (true, 1, 64) else (if f.kind = 4 then (true, 1, 512) else (if f.kind = 5 then (true, 2, 2) else (if f.kind = 6 then (true, 0, 0) else (if f.kind = 7 then (true, 0, 0) else (if f.kind = 8 then (true, 0, 8) else ((false, 0, 0) : Bool × Nat × Nat))))))))) = x at h hx
  obtain ⟨x1, x2, x3⟩ := x
  simp only [Uc] at h hx
  repeat' split at h
  all_goals first | (cases h; done) | skip
  all_goals exact ⟨by omega, by omega, by omega⟩
end Go.Proofs.YtdnjanhdnibkfaaGreatDoor.Jd

namespace Go.Proofs.YtdnjanhdnibkfaaGreatDoor.Jd
open Go.Proofs.Tryz
open Go.Proofs
open Go.RowKit (Below)
set_option maxRecDepth 100000
set_option maxHeartbeats 8000000
set_option linter.unusedVariables false
set_option linter.unusedSimpArgs false

theorem kP (w : World) {x_a : Option Addr} {x_c : Nat} {x : List Int} {target : Int} (h_x : Sl w eI 1 x_a x) (n_x : x.length ≤ 1000) : Ha Tryz.prog 141 [(vs x_a x.length x_c), (vi target)] w (Value.tuple [(vi ((Gb x target).1)), (Value.bool ((Gb x target).2))].toArray) := by
 have hF := Is.refl (Gb x target)
 refine enter func141 ntmps141 (h := ?_)
 refine Z2 ?_
 refine Lq ?_
 refine Z3 ?_
 refine Qb ?_
 refine Hq ?_
 refine Lq ?_
 refine yI ?_
 refine Il (σ1 := Nat) (σ2 := Nat) (σ3 := Nat) (fun n_3 i_1 j_2 => []) (fun n_3 i_1 j_2 => [(0, (vs x_a x.length x_c)), (1, (vi target)), (4, (vi 0)), (5, (Value.bool false)), (6, (vi ((x.length : Nat) : Int))), (7, (vi ((i_1 : Nat) : Int))), (8, (vi ((j_2 : Nat) : Int)))]) (fun n_3 i_1 j_2 => j_2 - i_1 < n_3 ∧ Is (Fa x target (x.length + 1) 0 x.length) (Fa x target n_3 i_1 j_2) ∧ i_1 ≤ j_2 ∧ j_2 ≤ x.length ∧ i_1 ≤ j_2) (fun n_3 i_1 j_2 => n_3) (x.length + 1) 0 x.length ?_ se (List.Perm.refl _) ?_
 ·exact ⟨Nat.lt_succ_self _, Is.refl _, z7, z7, z7⟩
 ·rintro (_ | n_3) i_1 j_2 ⟨hm5, hF4, hi6, hi7, hi8⟩
  ·omega
  refine Eu ?_
  refine Hp ?_
  refine Z9 ?_
  refine Bi rfl (fun hq1 => ?_) (fun hq1 => ?_)
  rotate_left
  ·refine Cu ?_
   refine Ia ?_
   refine Hp ?_
   refine Ck ?_
   refine aB ?_
   refine Ao 35 rfl (fun hq4 => ?_) (fun hq4 => ?_)
   rotate_left
   ·refine Ab 17 rfl ?_
    refine Af Ft (k := ?_)
    refine aC ?_
    refine Aa results141 (Bw.tmp rfl z0) (fun w1 hw1 => ?_)
    exact ⟨(rq ((hF.rn2 (hF4.neg hq1)).neg hq4)), hw1.ext_out⟩
   refine Qa ?_
   refine BG3 ?_
   refine cP ?_
   refine El ?_
   refine Ao 42 rfl (fun hq5 => ?_) (fun hq5 => ?_)
   ·refine Ab 9 rfl ?_
    refine Xj ?_
    refine aK ?_
    refine aC ?_
    refine Aa results141 (Bw.tmp rfl z0) (fun w1 hw1 => ?_)
    exact ⟨(rq (((hF.rn2 (hF4.neg hq1)).pos hq4).pos hq5)), hw1.ext_out⟩
   refine Qa ?_
   refine BG3 ?_
   refine bB (args := [_]) (Ac call193) func193 ntmps193 ?_
   refine Xv ?_
   refine Hp ?_
   refine Af Ro (k := ?_)
   refine Z4 ?_
   refine Bd results193 z0 ?_
   refine El ?_
   refine Ao 48 rfl (fun hq6 => ?_) (fun hq6 => ?_)
   ·exfalso
    exact hq6 rfl
   refine Ab 2 rfl ?_
   refine C8 ?_
   refine aK ?_
   refine aC ?_
   refine Aa results141 (Bw.tmp rfl z0) (fun w1 hw1 => ?_)
   exact ⟨(rq ((((hF.rn2 (hF4.neg hq1)).pos hq4).neg hq5).neg hq6)), hw1.ext_out⟩
  refine Py ?_
  refine Gr ?_
  refine Hp ?_
  refine dE ?_
  refine Af (Ky (r := (((i_1 : Nat) : Int) + ((j_2 : Nat) : Int))) (Q8 z3) runUnderlying3 runUnderlying175) (k := ?_)
  refine Af Qy (k := ?_)
  refine Af (Ky (r := (((i_1 + j_2) / 2 : Nat) : Int)) (BB4 (x := (((i_1 : Nat) : Int) + ((j_2 : Nat) : Int))) (i_1 + j_2) z3) runUnderlying175 runUnderlying3) (k := ?_)
  refine Ji ?_
  refine Af (Cz (n := x.length) runUnderlying24 sizeOf3 ((i_1 + j_2) / 2) (Cl.of_base h_x) (gD z4) Kc) (k := ?_)
  refine Af (Ci isAgg3 ((i_1 + j_2) / 2) 0 (Cl.of_base h_x) (gD z4)) (k := ?_)
  refine Ck ?_
  refine Bq (args := [_, _]) (Ac call192) func192 ntmps192 ?_
  refine Mq ?_
  refine Bq (args := [_]) (Ac call242) func242 ntmps242 ?_
  refine Xv ?_
  refine Hp ?_
  refine Af Ro (k := ?_)
  refine Z4 ?_
  refine Bd results242 z0 ?_
  refine Ck ?_
  refine Ao 7 rfl (fun hq2 => ?_) (fun hq2 => ?_)
  ·exfalso
   exact hq2 rfl
  refine Ab 3 rfl ?_
  refine Z5 ?_
  refine Qa ?_
  refine Ar Ny (k := ?_)
  refine Hz ?_
  refine Bd results192 z0 ?_
  refine Z0 ?_
  refine Bi rfl (fun hq3 => ?_) (fun hq3 => ?_)
  rotate_left
  ·refine AR6 ?_
   refine Ck ?_
   refine Mj ?_
   refine Fr ?_
   exact Ga n_3 i_1 ((i_1 + j_2) / 2) ⟨by omega, (((hF4.pos hq1).neg hq2).neg hq3), z3, z3, z3⟩ (Nat.lt_succ_self _) se (List.Perm.refl _)
  refine Jt ?_
  refine Xe ?_
  refine Fr ?_
  exact Ga n_3 (((i_1 + j_2) / 2) + 1) j_2 ⟨by omega, (((hF4.pos hq1).neg hq2).pos hq3), z3, z3, z3⟩ (Nat.lt_succ_self _) se (List.Perm.refl _)

end Go.Proofs.YtdnjanhdnibkfaaGreatDoor.Jd

namespace Go.Proofs.YtdnjanhdnibkfaaGreatDoor.Jd
open Go.Proofs.Tryz
open Go.Proofs
open Go.RowKit (Below)
set_option maxRecDepth 100000
set_option maxHeartbeats 8000000
set_option linter.unusedVariables false
set_option linter.unusedSimpArgs false

theorem eV (w : World) {s_opn_a : Option Addr} {s_opn_c : Nat} {ea0 : Addr} {ea1 : Addr} {ea2 : Addr} {ea3 : Addr} {ea4 : Addr} {ea5 : Addr} {ea6 : Addr} {ea7 : Addr} {ea8 : Addr} {ea9 : Addr} {ea10 : Addr} {ea11 : Addr} {ea12 : Addr} {ea13 : Addr} {ea14 : Addr} {ea15 : Addr} {s : Session} {stream : Int} (h_s_opn : Sl w eI 1 s_opn_a s.opn) (n_s_opn : s.opn.length ≤ 1000) (hG : Gl w) (hE : Er w ea0 ea1 ea2 ea3 ea4 ea5 ea6 ea7 ea8 ea9 ea10 ea11 ea12 ea13 ea14 ea15) : Calls Tryz.prog 21 (List.toArray [(Value.agg [(vi s.phase), (vt s.name), (vi s.handle.slot), (vi s.handle.gen), (vi s.a), (vi s.b), (vs s_opn_a s.opn.length s_opn_c)].toArray), (vi stream)]) w fun e w2 => ∃ a1 : Option Addr, ∃ c1 : Nat, ∃ B : Av, e = .returned (Value.tuple [(Value.agg [(vi ((Fj s stream).1.phase)), (vt ((Fj s stream).1.name)), (vi ((Fj s stream).1.handle.slot)), (vi ((Fj s stream).1.handle.gen)), (vi ((Fj s stream).1.a)), (vi ((Fj s stream).1.b)), (vs a1 ((Fj s stream).1.opn.length) c1)].toArray), (vi ((Fj s stream).2))].toArray) ∧ Ej w w2 B ∧ Hd B eI 1 a1 (Fj s stream).1.opn ∧ (Fj s stream).1.opn.length ≤ 1000 := by
 have hF := Is.refl (Fj s stream)
 refine enter func21 ntmps21 (h := ?_)
 refine Z2 ?_
 refine Ak Ag oH (k := fun r1 hr1 => ?_)
 refine Ak Ag z31 (k := fun r2 hr2 => ?_)
 refine Ak Ag mG (k := fun r3 hr3 => ?_)
 refine Z1 ?_
 refine yI ?_
 refine rE ?_
 refine Cy (Ac call22) (fun w1 hw1 => Pv w1 (s := s) (h_s_opn := (Cl.of_base h_s_opn) w1 hw1) (n_s_opn := Ng)) (k := ?_)
 refine Af Hi (k := ?_)
 refine Z1 ?_
 refine Dl rfl (fun hq1 => ?_) (fun hq1 => ?_)
 ·refine Cb ?_
  refine rQ ?_
  obtain ⟨Thgl2, fhgl2, hgl2⟩ := hE.v0
  refine wG ?_
  refine rU ?_
  refine Ib ?_
  obtain ⟨Thgl3, fhgl3, hgl3⟩ := hE.v0
  refine sO ?_
  refine A6 ?_
  refine aD ?_
  refine A8 ?_
  refine fI ?_
  refine Aa results21 (Bw.agg isAgg26 sizeOf26 rfl me rfl z0) (fun w1 hw1 => ?_)
  exact ⟨none, 0, [], (rq (hF.t hq1)), (hw1.fresh_out.sub Mo), (rn (hF.t hq1)), (rl (hF.t hq1))⟩
 have hfhq1 := Ry J8
 refine rE ?_
 refine It ?_
 refine Cy (Ac call20) (fun w1 hw1 => Ld w1 (s := s) (stream := stream) (h_s_opn := (Cl.of_base h_s_opn) w1 hw1) (n_s_opn := Ng)) (k := ?_)
 refine Af Hi (k := ?_)
 refine Z1 ?_
 refine Dl rfl (fun hq4 => ?_) (fun hq4 => ?_)
 ·refine Cb ?_
  refine rQ ?_
  obtain ⟨Thgl5, fhgl5, hgl5⟩ := hE.v5
  refine D6 ?_
  refine rU ?_
  refine Ib ?_
  obtain ⟨Thgl6, fhgl6, hgl6⟩ := hE.v0
  refine sP ?_
  refine Cy (args := [(Value.iface 400 (.pointer (some ea5))), (Value.iface 400 (.pointer (some ea0)))]) (Ac call81) (fun w1 hw1 => Jb w1 hE.n5_0 (hE.ext hw1.ext_out).b5 (hE.ext hw1.ext_out).b0) (k := ?_)
  refine Z1 ?_
  refine Va ?_
  obtain ⟨Thgl7, fhgl7, hgl7⟩ := hE.v1
  refine wF ?_
  refine Cy (args := [(Value.iface 400 (.pointer (some ea5))), (Value.iface 400 (.pointer (some ea1)))]) (Ac call81) (fun w1 hw1 => Jb w1 hE.n5_1 (hE.ext hw1.ext_out).b5 (hE.ext hw1.ext_out).b1) (k := ?_)
  refine Z1 ?_
  refine Va ?_
  obtain ⟨Thgl8, fhgl8, hgl8⟩ := hE.v5
  refine D5 ?_
  refine Cy (args := [(Value.iface 400 (.pointer (some ea5))), (Value.iface 400 (.pointer (some ea5)))]) (Ac call81) (fun w1 hw1 => Ih w1) (k := ?_)
  refine Z1 ?_
  refine aD ?_
  refine A8 ?_
  refine fI ?_
  refine Aa results21 (Bw.agg isAgg26 sizeOf26 rfl me rfl z0) (fun w1 hw1 => ?_)
  exact ⟨none, 0, [], (rq ((hF.f hq1).t hq4)), (hw1.fresh_out.sub Mo), (rn ((hF.f hq1).t hq4)), (rl ((hF.f hq1).t hq4))⟩
 refine Cg ?_
 refine kX ?_
 refine aA ?_
 refine Kt ?_
 refine Z72 ?_
 refine AF9 ?_
 refine Qb ?_
 refine bH (n := s.opn.length) (x0 := default) Fq underlying24 Ba rfl ⟨by omega, by omega⟩ (k := fun ax1 Bx1 hox1 => ?_)
 refine Ji ?_
 refine gQ (n := s.opn.length) Fq underlying24 Ba hox1 q0 z46 Ij rfl (kk := fun Bx2 hox2 => ?_)
 refine AI7 ?_
 refine Ck ?_
 refine Bq (args := [_, _]) (Ac call62) func62 ntmps62 ?_
 refine Xv ?_
 refine Hp ?_
 refine vK ?_
 refine Yk ?_
 refine Jj (σ1 := Nat) (σ2 := Nat) (fun n_2 x_1 => (Bx2 ++ ((r3, oc [(vi 0), (vt ([] : An)), (vi 0), (vi 0), (vi 0), (vi 0), (vs none 0 0)] 26) :: ((r2, oc [(vi stream)] 3) :: ((r1, oc [(vi s.phase), (vt s.name), (vi s.handle.slot), (vi s.handle.gen), (vi s.a), (vi s.b), (vs s_opn_a s.opn.length s_opn_c)] 26) :: []))))) (fun n_2 x_1 => [(0, (vs ax1 s.opn.length s.opn.length)), (1, (Value.func (.func 61) [].toArray [(Value.pointer (some ⟨r2, 0, none⟩))].toArray)), (4, (vi 0)), (7, (vi ((s.opn.length : Nat) : Int))), (8, (vi ((x_1 : Nat) : Int)))]) (fun n_2 x_1 => s.opn.length - x_1 < n_2 ∧ Is (Km s stream (s.opn.length + 1) 0) (Km s stream n_2 x_1) ∧ x_1 ≤ s.opn.length) (fun n_2 x_1 => n_2) (s.opn.length + 1) 0 ?_ se (List.Perm.refl _) ?_
 ·exact ⟨Nat.lt_succ_self _, Is.refl _, z7⟩
 ·rintro (_ | n_2) x_1 ⟨hm4, hF3, hi5⟩
  ·omega
  refine Zy ?_
  refine Bi rfl (fun hq9 => ?_) (fun hq9 => ?_)
  rotate_left
  ·refine Cu ?_
   refine Ia ?_
   refine Yp ?_
   refine Bd results114 z0 ?_
   refine Iv ?_
   refine iP ?_
   refine Tv ?_
   refine Rg ?_
   refine Bd results62 z0 ?_
   refine L4 ?_
   refine Z0 ?_
   refine M1 ?_
   refine Z4 ?_
   refine Aa results21 (Bw.agg isAgg26 sizeOf26 rfl me rfl z0) (fun w1 hw1 => ?_)
   exact ⟨ax1, s.opn.length, Bx2, (rq (((hF.f hq1).f hq4).ok1 (hF3.neg hq9))), (Ax (L := Bx2) (hw1.perm (List.Perm.refl _)) rfl.symm), (by rw [(((hF.f hq1).f hq4).ok1 (hF3.neg hq9)).eq]; exact (hox2.slb Ba)), (rl (((hF.f hq1).f hq4).ok1 (hF3.neg hq9)))⟩
  refine Py ?_
  refine Ib ?_
  refine AD5 ?_
  refine Af (Cz (n := s.opn.length) runUnderlying24 sizeOf3 x_1 (hox2.slj Ba) (gD z4) Kc) (k := ?_)
  refine Af (Ci isAgg3 x_1 0 (hox2.slj Ba) (gD z4)) (k := ?_)
  refine Bq (args := [_, _]) (Ac call61) func61 ntmps61 ?_
  refine Mq ?_
  refine It ?_
  refine wE ?_
  refine Bd results61 z0 ?_
  refine Z0 ?_
  refine Bi rfl (fun hq10 => ?_) (fun hq10 => ?_)
  rotate_left
  ·refine Cg ?_
   refine Ux ?_
   exact Hu n_2 (x_1 + 1) ⟨by omega, ((hF3.pos hq9).neg hq10), z3⟩ (Nat.lt_succ_self _) se (List.Perm.refl _)
  refine Z3 ?_
  refine Ri ?_
  refine Bd results114 z0 ?_
  refine Iv ?_
  refine iP ?_
  refine Bi rfl (fun hq11 => ?_) (fun hq11 => ?_)
  ·refine Cb ?_
   refine Jt ?_
   refine Rg ?_
   refine Bd results62 z0 ?_
   refine L4 ?_
   refine Z0 ?_
   refine M1 ?_
   refine Z4 ?_
   refine Aa results21 (Bw.agg isAgg26 sizeOf26 rfl me rfl z0) (fun w1 hw1 => ?_)
   exact ⟨ax1, s.opn.length, Bx2, (rq ((((hF.f hq1).f hq4).er1 ((hF3.pos hq9).pos hq10)).pos hq11)), (Ax (L := Bx2) (hw1.perm (List.Perm.refl _)) rfl.symm), (by rw [((((hF.f hq1).f hq4).er1 ((hF3.pos hq9).pos hq10)).pos hq11).eq]; exact (hox2.slb Ba)), (rl ((((hF.f hq1).f hq4).er1 ((hF3.pos hq9).pos hq10)).pos hq11))⟩
  refine Py ?_
  refine fL ?_
  refine dE ?_
  refine Z1 ?_
  refine Gr ?_
  refine AK0 (σ1 := Nat) (σ2 := List Int) (σ3 := Option Addr) (σ4 := Nat) (σ5 := Av) (σ6 := Nat) (σ7 := Nat) (fun n_9 s_6 s_6a s_6c s_6B i_7 j_8 => (s_6B ++ ((r3, oc [(vi 0), (vt ([] : An)), (vi 0), (vi 0), (vi 0), (vi 0), (vs none 0 0)] 26) :: ((r2, oc [(vi stream)] 3) :: ((r1, oc [(vi s.phase), (vt s.name), (vi s.handle.slot), (vi s.handle.gen), (vi s.a), (vi s.b), (vs s_opn_a s.opn.length s_opn_c)] 26) :: []))))) (fun n_9 s_6 s_6a s_6c s_6B i_7 j_8 => [(0, (vs s_6a s_6.length s_6c)), (1, (Value.func (.func 61) [].toArray [(Value.pointer (some ⟨r2, 0, none⟩))].toArray)), (4, (vs none 0 0)), (5, (vi ((i_7 : Nat) : Int))), (6, (vi ((j_8 : Nat) : Int)))]) (fun n_9 s_6 s_6a s_6c s_6B i_7 j_8 => s_6.length - j_8 < n_9 ∧ Is (Gy s stream x_1 (s.opn.length - (x_1 + 1) + 1) s.opn x_1 (x_1 + 1)) (Gy s stream x_1 n_9 s_6 i_7 j_8) ∧ Bt eI 1 3 s_6a s_6c s_6B s_6 ∧ (i_7 < j_8 ∧ j_8 ≤ s.opn.length) ∧ s_6.length = s.opn.length) (fun n_9 s_6 s_6a s_6c s_6B i_7 j_8 => n_9) (s.opn.length - (x_1 + 1) + 1) s.opn ax1 s.opn.length Bx2 x_1 (x_1 + 1) ?_ se (List.Perm.refl _) ?_
  ·exact ⟨Nat.lt_succ_self _, Is.refl _, hox2, (by first | omega | assumption | rfl), (by first | omega | assumption | rfl)⟩
  ·rintro (_ | n_9) s_6 s_6a s_6c s_6B i_7 j_8 ⟨hm11, hF10, hs_6, hi12, hi13⟩
   ·omega
   refine Eu ?_
   refine Hp ?_
   refine Qb ?_
   refine Z9 ?_
   refine Bi rfl (fun hq12 => ?_) (fun hq12 => ?_)
   rotate_left
   ·refine Cu ?_
    refine Ia ?_
    refine Hp ?_
    have hle14 := hs_6.le'
    have hld15 : (s_6.drop i_7).length = s_6.length - i_7 := List.length_drop
    refine Af (Hj (n := s_6.length) (c := s_6c) (i := ((i_7 : Nat) : Int)) i_7 (s_6.drop i_7).length runUnderlying24 sizeOf3 (hlo := z4) (hnc := iE) (hm := z6)) (k := ?_)
    have htk16 : (s_6.take i_7).length = i_7 := by rw [List.length_take]; omega
    refine tP (dn := (s_6.drop i_7).length) (x0 := default) i_7 Fq zeroValue3 rfl underlying24 Ba (hs_6.take Ba i_7) q0 (Nat.le_of_eq htk16) Tt (kk := fun Bx3 hox3 => ?_)
    refine Z0 ?_
    refine Hp ?_
    have hl17 : ((s_6.take i_7).take i_7).length = i_7 := by rw [List.length_take]; omega
    have hl17c := hox3.le'
    refine Af (Hb ((s_6.take i_7).take i_7).length runUnderlying24 (fun w => ⟨_, sizeOf3 w⟩) (hm := z3) (hi := z3)) (k := ?_)
    refine Z4 ?_
    refine Bd results62 z0 ?_
    refine L4 ?_
    refine Z0 ?_
    refine M1 ?_
    refine Z4 ?_
    refine Aa results21 (Bw.agg isAgg26 sizeOf26 rfl me rfl z0) (fun w1 hw1 => ?_)
    exact ⟨s_6a, s_6c, Bx3, (rq (((((hF.f hq1).f hq4).er1 ((hF3.pos hq9).pos hq10)).neg hq11).rn3 (hF10.neg hq12))), (Ax (L := Bx3) (hw1.perm (List.Perm.refl _)) rfl.symm), (by rw [(((((hF.f hq1).f hq4).er1 ((hF3.pos hq9).pos hq10)).neg hq11).rn3 (hF10.neg hq12)).eq]; exact ((hox3.take Ba i_7).slb Ba)), (rl (((((hF.f hq1).f hq4).er1 ((hF3.pos hq9).pos hq10)).neg hq11).rn3 (hF10.neg hq12)))⟩
   refine lL ?_
   refine Hp ?_
   refine Af (Cz (n := s_6.length) runUnderlying24 sizeOf3 j_8 (hs_6.slj Ba) (gD z4) Kc) (k := ?_)
   refine Af (Ci isAgg3 j_8 0 (hs_6.slj Ba) (gD z4)) (k := ?_)
   refine Ji ?_
   refine Bq (args := [_, _]) (Ac call61) func61 ntmps61 ?_
   refine Mq ?_
   refine It ?_
   refine wE ?_
   refine Bd results61 z0 ?_
   refine Uz ?_
   refine Bi rfl (fun hq13 => ?_) (fun hq13 => ?_)
   rotate_left
   ·refine Cg ?_
    refine cS ?_
    refine Xe ?_
    exact yM n_9 s_6 s_6a s_6c s_6B i_7 (j_8 + 1) ⟨by first | omega | (simp only [List.length_set]; omega), ((hF10.pos hq12).neg hq13), hs_6, J0, J0⟩ (Nat.lt_succ_self _) se (List.Perm.refl _)
   refine Hp ?_
   refine Ck ?_
   refine Af (Cz (n := s_6.length) runUnderlying24 sizeOf3 i_7 (hs_6.slj Ba) (gD z4) Kc) (k := ?_)
   refine Lw i_7 (s_6.getD j_8 default) sizeOf3 Ba hs_6 q0 J0 (k := fun Bs1 hos1 => ?_)
   refine O6 0 (vs s_6a ((s_6.set i_7 (s_6.getD j_8 default)).length) s_6c) rfl (by simp only [List.length_set]) ?_
   refine Z0 ?_
   refine Jt ?_
   refine Xe ?_
   refine cS ?_
   refine Xe ?_
   exact yM n_9 (s_6.set i_7 (s_6.getD j_8 default)) s_6a s_6c Bs1 (i_7 + 1) (j_8 + 1) ⟨by first | omega | (simp only [List.length_set]; omega), ((hF10.pos hq12).pos hq13), hos1, J0, J0⟩ (Nat.lt_succ_self _) se (List.Perm.refl _)

end Go.Proofs.YtdnjanhdnibkfaaGreatDoor.Jd

namespace Go.Proofs.YtdnjanhdnibkfaaGreatDoor.Jd
open Go.Proofs.Tryz
open Go.Proofs
open Go.RowKit (Below)
set_option maxRecDepth 100000
set_option maxHeartbeats 8000000
set_option linter.unusedVariables false
set_option linter.unusedSimpArgs false

theorem lX {N : Nat} {D : List Deferred} {b0 : World} {L : Av} {E : Fd} {ty : TypeId} {x y : Operand} {tys : Array TypeId} {v_a s_a : Option Addr} {v_c s_c lo n cc : Nat} {s_B : Av} {s : List Int} (he : ∃ r cs T, v_a = some (⟨r, 0, none⟩ : Addr) ∧ b0.heap[r]? = some (.cells cs T (0, 0)) ∧ r ∉ keys s_B) (ho : Bt eI 1 3 s_a s_c s_B s) (hs : 0 < s_c)
  (hB : ∀ p ∈ s_B, p ∈ L) (hx : ev E x = some (.slice v_a 1 v_c) := by rfl) (hy : ev E y = some (.slice (Nq s_a 1 lo s_c) n cc) := by rfl) :
  Db Tryz.prog N D b0 (keys s_B) L E (.call { callee := .value (.func 194), args := #[x, y], argTypes := tys }) ty (.bool false) := fun ac w ha hw => by
 obtain ⟨r, cs, T, rfl, hr, hnr⟩ := he
 rcases ho with ⟨rfl, rfl, rfl⟩ | ⟨r', cur, fz, rfl, rfl, hfz, h1, h2, h3⟩
 ·omega
 ·have hh : w.heap[r']? = some (.cells cur 3 fz) := hw.own _ (hB _ List.mem_cons_self)
  have hv : w.heap[r]? = some (.cells cs T (0, 0)) := (hw.same r (Array.getElem?_eq_some_iff.1 hr).1 hnr).trans hr
  have hne : r ≠ r' := fun e => hnr (by subst e; simp [keys])
  obtain ⟨ad, hoff, had⟩ : ∃ ad : Addr, Nq (some (⟨r', 0, none⟩ : Addr)) 1 lo s_c = some ad ∧ ad.block = r' := by
   unfold Nq
   split
   ·exact ⟨_, rfl, rfl⟩
   ·exact ⟨_, rfl, by show (Addr.add ⟨r', 0, none⟩ _).block = r'; rw [Bc]⟩
  have hfr : ∀ k, w.frozen? ⟨r, k, none⟩ = false := fun k => by simp [World.frozen?, hv]
  have hrun := Lib.run_overlaps_apart (P := Tryz.prog) w 24 4 3 underlying24 1 sizeOf3 (⟨r, 0, none⟩ : Addr) ad 1 v_c n cc (by rw [had]; exact hne) T 3 cs.size cur.size (by simp [World.shape?, hv]) (by rw [had]; simp [World.shape?, hh]) (by rw [h2]; omega) (hfr 0) (hfr cs.size)
  have h8 := @run_callFunc_extern Tryz.prog 194 _ (Extern.SlicesOverlaps.overlaps #[24, 24] #[4]) func194 z2 z2 z2 z2
  rw [hoff] at hy
  simp only [Fl, execOp, resolve, Sem.run_bind, Act.eval, Deferred.ofValue, Sem.run_pure, Result.andThen_ok]
  simp only [invoke, List.map_toArray, List.map_cons, List.map_nil, ha.eval hx, ha.eval hy]
  have h9 := h8 #[vs (some { block := r, off := 0 }) 1 v_c, vs (some ad) n cc] w
  rw [hrun] at h9
  simpa using h9
theorem eW (w : World) {s_a : Option Addr} {s_c : Nat} {s_B : Av} {v_a : Option Addr} {v_c : Nat} {s : List Int} {i : Int} {x : Int} (o_s : Bt eI 1 3 s_a s_c s_B s) (b_s : ∀ p ∈ s_B, w.heap[p.1]? = some p.2) (n_s : s.length ≤ 1000000) (h_v : Sl w eI 1 v_a ([x] : List Int)) (d_v : ∀ m ∈ keys s_B, yQ v_a ([x] : List Int) m) (e_v : ∃ r cs T, v_a = some ⟨r, 0, none⟩ ∧ w.heap[r]? = some (.cells cs T (0, 0)) ∧ r ∉ keys s_B) (hi : 0 ≤ i ∧ i ≤ s.length) : Calls Tryz.prog 142 (List.toArray [(vs s_a s.length s_c), (vi i), (vs v_a 1 v_c)]) w fun e w2 => ∃ a1 : Option Addr, ∃ c1 : Nat, ∃ B1 : Av, e = .returned (vs a1 ((Mz s i.toNat x).length) c1) ∧ Tr w w2 s_B B1 ∧ Bt eI 1 3 a1 c1 B1 (Mz s i.toNat x) := by
 have hF := Is.refl (Mz s i.toNat x)
 have hiN : i.toNat ≤ s.length := by omega
 have hi1 : (i + 1).toNat = i.toNat + 1 := by omega
 have hMk : ∀ k ∈ keys s_B, k < w.heap.size := fun k hk => by
  obtain ⟨o, ho⟩ := Mu hk
  exact (Array.getElem?_eq_some_iff.1 (b_s _ ho)).1
 have hle0 := o_s.le'
 refine AX9 (keys s_B) (s_B ++ []) (by simpa using b_s) (fun p hp => aQ (by simpa using hp)) (by simpa using o_s.nd) func142 ntmps142 (h := ?_)
 refine Xv ?_
 refine Hp ?_
 have hle1 := o_s.le'
 have hld2 : (s.drop i.toNat).length = s.length - i.toNat := List.length_drop
 refine Af (Hj (n := s.length) (c := s_c) (i := i) i.toNat (s.drop i.toNat).length runUnderlying24 sizeOf3 (hlo := z4) (hnc := iE) (hm := z6)) (k := ?_)
 refine Lr ?_
 refine Qb ?_
 refine Iv ?_
 refine iP ?_
 refine Rk ?_
 refine Z3 ?_
 refine Qb ?_
 refine Ik ?_
 refine Hp ?_
 refine iP ?_
 refine Bi rfl (fun hq3 => ?_) (fun hq3 => ?_)
 ·refine Cb ?_
  refine Sd ?_
  refine Bb (s ++ ([x] : List Int)) rfl Fq underlying24 Ba o_s q0 (Cl.of_world h_v d_v) ⟨by omega, by omega⟩ (n := s.length) (m := 1) (k := fun ax1 cx1 Bx1 hox1 => ?_)
  have hal1 : (s ++ ([x] : List Int)).length = s.length + 1 := by first | rfl | exact List.length_append | simp
  refine Rg ?_
  refine Aa results142 z0 (fun w1 hw1 => ?_)
  have hcan0 : (s ++ ([x] : List Int)) = (Mz s i.toNat x) := by (first | exact qK z3 | (simp only [hi1]; exact kC hiN rfl (List.take_left' (by rw [List.length_take]; omega)) z86) | (simp only [hi1]; exact dW z3 rfl))
  have hlen0 : (s ++ ([x] : List Int)).length = (Mz s i.toNat x).length := by first | (rw [← hcan0]; done) | (rw [← hcan0]; first | rfl | (simp; done) | (simp only [List.length_append, List.length_take, List.length_drop, List.length_set, List.length_replicate, List.length_cons, List.length_nil, List.length_map, Di, Cw]; omega) | (simp; omega))
  exact ⟨ax1, cx1, Bx1, zY, ((hw1.perm (List.Perm.refl _)).tr_out.sub (by first | exact List.sublist_append_left _ _ | exact List.nil_sublist _)), (hcan0 ▸ hox1)⟩
 refine Yq ?_
 refine Hp ?_
 refine Z8 ?_
 refine Af (R9 runUnderlying24) (k := ?_)
 refine Af Ln (k := ?_)
 refine Z0 ?_
 refine Bi rfl (fun hq4 => ?_) (fun hq4 => ?_)
 ·refine Cb ?_
  refine Sd ?_
  have hl5 : (s.take i.toNat).length = i.toNat := by rw [List.length_take]; omega
  have hl5c := o_s.le'
  refine Af (Hb (s.take i.toNat).length runUnderlying24 (fun w => ⟨_, sizeOf3 w⟩) (hm := z3) (hi := z3)) (k := ?_)
  refine Sf ?_
  refine Z8 ?_
  refine Xi ?_
  refine jU (i := ((((s.length : Nat) : Int) + 1) - i)) (n := (s.take i.toNat).length) (c := s_c) (x0 := default) (xs := (s.take i.toNat)) (m := ((((s.length : Nat) : Int) + 1) - i).toNat) Fq underlying24 underlying3 Ba rfl ((o_s.take Ba i.toNat).slj Ba) z4 z4 z4 ⟨by first | exact ix, by first | exact ix⟩ z3 (k := fun ax2 cx2 Bx2 hox2 => ?_)
  refine Ji ?_
  have hle6 := hox2.le'
  have hld7 : (((s.take i.toNat) ++ List.replicate (((((s.length : Nat) : Int) + 1) - i).toNat) default).drop i.toNat).length = ((s.take i.toNat) ++ List.replicate (((((s.length : Nat) : Int) + 1) - i).toNat) default).length - i.toNat := List.length_drop
  refine Af (Hj (n := ((s.take i.toNat) ++ List.replicate (((((s.length : Nat) : Int) + 1) - i).toNat) default).length) (c := cx2) (i := i) i.toNat (((s.take i.toNat) ++ List.replicate (((((s.length : Nat) : Int) + 1) - i).toNat) default).drop i.toNat).length runUnderlying24 sizeOf3 (hlo := z4) (hnc := iE) (hm := z6)) (k := ?_)
  refine Ck ?_
  refine jS (dn := (((s.take i.toNat) ++ List.replicate (((((s.length : Nat) : Int) + 1) - i).toNat) default).drop i.toNat).length) (sn := 1) i.toNat 1 (((s.take i.toNat) ++ List.replicate (((((s.length : Nat) : Int) + 1) - i).toNat) default).take i.toNat ++ ([x] : List Int).take 1 ++ ((s.take i.toNat) ++ List.replicate (((((s.length : Nat) : Int) + 1) - i).toNat) default).drop (i.toNat + 1)) rfl Fq underlying24 Ba hox2 q0 (Cl.of_world h_v d_v) Tt Tt Tt Tt (kk := fun Bx3 hox3 => ?_)
  refine Jr ?_
  refine BG9 ?_
  refine Fo ?_
  refine Be jD (k := ?_)
  have hle8 := hox3.le'
  have hld9 : ((((s.take i.toNat) ++ List.replicate (((((s.length : Nat) : Int) + 1) - i).toNat) default).take i.toNat ++ ([x] : List Int).take 1 ++ ((s.take i.toNat) ++ List.replicate (((((s.length : Nat) : Int) + 1) - i).toNat) default).drop (i.toNat + 1)).drop ((i + 1).toNat)).length = (((s.take i.toNat) ++ List.replicate (((((s.length : Nat) : Int) + 1) - i).toNat) default).take i.toNat ++ ([x] : List Int).take 1 ++ ((s.take i.toNat) ++ List.replicate (((((s.length : Nat) : Int) + 1) - i).toNat) default).drop (i.toNat + 1)).length - ((i + 1).toNat) := List.length_drop
  refine Be (Hj (n := ((s.take i.toNat) ++ List.replicate (((((s.length : Nat) : Int) + 1) - i).toNat) default).length) (c := cx2) (i := (i + 1)) ((i + 1).toNat) ((((s.take i.toNat) ++ List.replicate (((((s.length : Nat) : Int) + 1) - i).toNat) default).take i.toNat ++ ([x] : List Int).take 1 ++ ((s.take i.toNat) ++ List.replicate (((((s.length : Nat) : Int) + 1) - i).toNat) default).drop (i.toNat + 1)).drop ((i + 1).toNat)).length runUnderlying24 sizeOf3 (hlo := z4) (hnc := iE) (hm := z6)) (k := ?_)
  refine Li ?_
  have hle10 := o_s.le'
  have hld11 : (s.drop i.toNat).length = s.length - i.toNat := List.length_drop
  refine Be (Hj (n := s.length) (c := s_c) (i := i) i.toNat (s.drop i.toNat).length runUnderlying24 sizeOf3 (hlo := z4) (hnc := iE) (hm := z6)) (k := ?_)
  refine jT (dn := ((((s.take i.toNat) ++ List.replicate (((((s.length : Nat) : Int) + 1) - i).toNat) default).take i.toNat ++ ([x] : List Int).take 1 ++ ((s.take i.toNat) ++ List.replicate (((((s.length : Nat) : Int) + 1) - i).toNat) default).drop (i.toNat + 1)).drop ((i + 1).toNat)).length) (sn := (s.drop i.toNat).length) ((i + 1).toNat) (s.length - i.toNat) ((((s.take i.toNat) ++ List.replicate (((((s.length : Nat) : Int) + 1) - i).toNat) default).take i.toNat ++ ([x] : List Int).take 1 ++ ((s.take i.toNat) ++ List.replicate (((((s.length : Nat) : Int) + 1) - i).toNat) default).drop (i.toNat + 1)).take ((i + 1).toNat) ++ (s.drop i.toNat).take (s.length - i.toNat) ++ (((s.take i.toNat) ++ List.replicate (((((s.length : Nat) : Int) + 1) - i).toNat) default).take i.toNat ++ ([x] : List Int).take 1 ++ ((s.take i.toNat) ++ List.replicate (((((s.length : Nat) : Int) + 1) - i).toNat) default).drop (i.toNat + 1)).drop ((i + 1).toNat + (s.length - i.toNat))) rfl Fq underlying24 Ba hox3 q0 (Cl.off (o_s.slj Ba (by intro p hp; first | exact hp | (simp [hp]; done))) i.toNat s_c iE) Tt Tt Tt Tt (kk := fun Bx5 hox5 => ?_)
  refine oY ?_
  refine Lr ?_
  refine Rg ?_
  refine Aa results142 z0 (fun w1 hw1 => ?_)
  have hcan0 : ((((s.take i.toNat) ++ List.replicate (((((s.length : Nat) : Int) + 1) - i).toNat) default).take i.toNat ++ ([x] : List Int).take 1 ++ ((s.take i.toNat) ++ List.replicate (((((s.length : Nat) : Int) + 1) - i).toNat) default).drop (i.toNat + 1)).take ((i + 1).toNat) ++ (s.drop i.toNat).take (s.length - i.toNat) ++ (((s.take i.toNat) ++ List.replicate (((((s.length : Nat) : Int) + 1) - i).toNat) default).take i.toNat ++ ([x] : List Int).take 1 ++ ((s.take i.toNat) ++ List.replicate (((((s.length : Nat) : Int) + 1) - i).toNat) default).drop (i.toNat + 1)).drop ((i + 1).toNat + (s.length - i.toNat))) = (Mz s i.toNat x) := by (first | exact qK z3 | (simp only [hi1]; exact kC hiN rfl (List.take_left' (by rw [List.length_take]; omega)) z86) | (simp only [hi1]; exact dW z3 rfl))
  have hlen0 : ((s.take i.toNat) ++ List.replicate (((((s.length : Nat) : Int) + 1) - i).toNat) default).length = (Mz s i.toNat x).length := by first | (rw [← hcan0]; done) | (rw [← hcan0]; first | rfl | (simp; done) | (simp only [List.length_append, List.length_take, List.length_drop, List.length_set, List.length_replicate, List.length_cons, List.length_nil, List.length_map, Di, Cw]; omega) | (simp; omega))
  exact ⟨ax2, cx2, Bx5, zY, ((hw1.perm (List.Perm.refl _)).tr_out.sub (by first | exact List.sublist_append_left _ _ | exact List.nil_sublist _)), (hcan0 ▸ hox5)⟩
 refine Py ?_
 refine Hp ?_
 refine Ck ?_
 refine dE ?_
 refine Af (Hb (s.length + 1) runUnderlying24 (fun w => ⟨_, sizeOf3 w⟩) (hm := z3) (hi := z3)) (k := ?_)
 refine Ik ?_
 refine Hp ?_
 refine Sf ?_
 refine dE ?_
 have hle12 := o_s.le'
 have hld13 : (s.drop ((i + 1).toNat)).length = s.length - ((i + 1).toNat) := List.length_drop
 refine Af (Hj (n := (s.length + 1)) (c := s_c) (i := (i + 1)) ((i + 1).toNat) ((s.length + 1) - (i + 1).toNat) runUnderlying24 sizeOf3 (hlo := z4) (hnc := iE) (hm := z6)) (k := ?_)
 refine Af (lX e_v o_s z3 (by intro p hp; simp [hp])) (k := ?_)
 refine Mp ?_
 refine Eu ?_
 refine BG9 ?_
 refine Fo ?_
 refine Be jD (k := ?_)
 have hle14 := o_s.le'
 have hld15 : (s.drop ((i + 1).toNat)).length = s.length - ((i + 1).toNat) := List.length_drop
 refine Be (Hj (n := (s.length + 1)) (c := s_c) (i := (i + 1)) ((i + 1).toNat) ((s.length + 1) - (i + 1).toNat) runUnderlying24 sizeOf3 (hlo := z4) (hnc := iE) (hm := z6)) (k := ?_)
 refine Li ?_
 have hle16 := o_s.le'
 have hld17 : (s.drop i.toNat).length = s.length - i.toNat := List.length_drop
 refine Be (Hj (n := (s.length + 1)) (c := s_c) (i := i) i.toNat ((s.length + 1) - i.toNat) runUnderlying24 sizeOf3 (hlo := z4) (hnc := iE) (hm := z6)) (k := ?_)
 refine jT (dn := ((s.length + 1) - (i + 1).toNat)) (sn := ((s.length + 1) - i.toNat)) ((i + 1).toNat) (s.length - i.toNat) (s.take ((i + 1).toNat) ++ (s.drop i.toNat).take (s.length - i.toNat) ++ s.drop ((i + 1).toNat + (s.length - i.toNat))) rfl Fq underlying24 Ba o_s q0 (Cl.off (o_s.slj Ba (by intro p hp; first | exact hp | (simp [hp]; done))) i.toNat s_c iE) Tt Tt Tt Tt (kk := fun Bx7 hox7 => ?_)
 refine oY ?_
 refine Z0 ?_
 refine Hp ?_
 have hle18 := hox7.le'
 have hld19 : ((s.take ((i + 1).toNat) ++ (s.drop i.toNat).take (s.length - i.toNat) ++ s.drop ((i + 1).toNat + (s.length - i.toNat))).drop i.toNat).length = (s.take ((i + 1).toNat) ++ (s.drop i.toNat).take (s.length - i.toNat) ++ s.drop ((i + 1).toNat + (s.length - i.toNat))).length - i.toNat := List.length_drop
 refine Af (Hj (n := (s.length + 1)) (c := s_c) (i := i) i.toNat ((s.take ((i + 1).toNat) ++ (s.drop i.toNat).take (s.length - i.toNat) ++ s.drop ((i + 1).toNat + (s.length - i.toNat))).drop i.toNat).length runUnderlying24 sizeOf3 (hlo := z4) (hnc := iE) (hm := z6)) (k := ?_)
 refine Ck ?_
 refine jS (dn := ((s.take ((i + 1).toNat) ++ (s.drop i.toNat).take (s.length - i.toNat) ++ s.drop ((i + 1).toNat + (s.length - i.toNat))).drop i.toNat).length) (sn := 1) i.toNat 1 ((s.take ((i + 1).toNat) ++ (s.drop i.toNat).take (s.length - i.toNat) ++ s.drop ((i + 1).toNat + (s.length - i.toNat))).take i.toNat ++ ([x] : List Int).take 1 ++ (s.take ((i + 1).toNat) ++ (s.drop i.toNat).take (s.length - i.toNat) ++ s.drop ((i + 1).toNat + (s.length - i.toNat))).drop (i.toNat + 1)) rfl Fq underlying24 Ba hox7 q0 (Cl.of_world h_v d_v) Tt Tt Tt Tt (kk := fun Bx8 hox8 => ?_)
 refine Lr ?_
 refine Rg ?_
 refine Aa results142 z0 (fun w1 hw1 => ?_)
 have hcan0 : ((s.take ((i + 1).toNat) ++ (s.drop i.toNat).take (s.length - i.toNat) ++ s.drop ((i + 1).toNat + (s.length - i.toNat))).take i.toNat ++ ([x] : List Int).take 1 ++ (s.take ((i + 1).toNat) ++ (s.drop i.toNat).take (s.length - i.toNat) ++ s.drop ((i + 1).toNat + (s.length - i.toNat))).drop (i.toNat + 1)) = (Mz s i.toNat x) := by (first | exact qK z3 | (simp only [hi1]; exact kC hiN rfl (List.take_left' (by rw [List.length_take]; omega)) z86) | (simp only [hi1]; exact dW z3 rfl))
 have hlen0 : (s.length + 1) = (Mz s i.toNat x).length := by first | (rw [← hcan0]; done) | (rw [← hcan0]; first | rfl | (simp; done) | (simp only [List.length_append, List.length_take, List.length_drop, List.length_set, List.length_replicate, List.length_cons, List.length_nil, List.length_map, Di, Cw]; omega) | (simp; omega))
 exact ⟨s_a, s_c, Bx8, zY, ((hw1.perm (List.Perm.refl _)).tr_out.sub (by first | exact List.sublist_append_left _ _ | exact List.nil_sublist _)), (hcan0 ▸ hox8)⟩

end Go.Proofs.YtdnjanhdnibkfaaGreatDoor.Jd

namespace Go.Proofs.YtdnjanhdnibkfaaGreatDoor.Jd
open Go.Proofs.Tryz
set_option linter.unusedVariables false
set_option linter.unusedSimpArgs false
theorem uS {α : Type} [Inhabited α] {xs : List α} {i k : Nat} {v : α} (hi : i < xs.length) : (xs.set i v).getD k default = if k = i then v else xs.getD k default := by
  rw [List.getD_eq_getElem?_getD, List.getD_eq_getElem?_getD, List.getElem?_set]
  by_cases h : i = k
  · subst h; simp [hi]
  · rw [if_neg h, if_neg (fun e => h e.symm)]
theorem AS4 (l : List Ie) (t : Cd) (a : Int) (b : List Int) : ∀ (n j : Nat) (ys : List Int), j < n → j < ys.length → (∀ k, k < ys.length → k ≠ j → ys.getD j default < ys.getD k default) →
    (Gv l t a b n (j : Int) ys).2.getD 0 default = ys.getD j default ∧ (Gv l t a b n (j : Int) ys).2.length = ys.length ∧ ∀ z ∈ (Gv l t a b n (j : Int) ys).2, z ∈ ys
  | 0, j, ys, h, _, _ => by omega
  | n + 1, j, ys, h, hj, hl => by
    unfold Gv
    by_cases h0 : j = 0
    · subst h0
      rw [if_pos Ij]
      exact ⟨rfl, rfl, fun z hz => hz⟩
    · have hi : ((j : Int) - 1).toNat / 2 = (j - 1) / 2 := by omega
      rw [if_neg (by rw [hi]; omega)]
      have hij : (j - 1) / 2 < j := by omega
      have hlt := hl ((j - 1) / 2) z3 z3
      have e1 : ((j : Int)).toNat = j := by omega
      have e2 : ((((j - 1) / 2 : Nat) : Int)).toNat = (j - 1) / 2 := by omega
      rw [hi, e1, if_neg (by simp only [Decidable.not_not]; exact hlt), e2]
      have hlen : ((ys.set ((j - 1) / 2) (ys.getD j default)).set j (ys.getD ((j - 1) / 2) default)).length = ys.length := by simp
      have hg : ∀ k, ((ys.set ((j - 1) / 2) (ys.getD j default)).set j (ys.getD ((j - 1) / 2) default)).getD k default = if k = j then ys.getD ((j - 1) / 2) default else if k = (j - 1) / 2 then ys.getD j default else ys.getD k default := fun k => by
        rw [uS (by simpa using hj), uS z3]
      obtain ⟨r1, r2, r3⟩ := AS4 l t a b n ((j - 1) / 2) ((ys.set ((j - 1) / 2) (ys.getD j default)).set j (ys.getD ((j - 1) / 2) default)) z3 (by rw [hlen]; omega) (fun k hk hkj => by
        rw [hlen] at hk
        rw [hg, hg, if_neg z3, if_pos rfl]
        by_cases h1 : k = j
        · rw [if_pos h1]; exact hlt
        · rw [if_neg h1, if_neg hkj]; exact hl k hk h1)
      rw [hg, if_neg z3, if_pos rfl] at r1
      refine ⟨r1, by rw [r2, hlen], fun z hz => ?_⟩
      have hm : ∀ k, k < ys.length → ys.getD k default ∈ ys := fun k hk => by
        rw [List.getD_eq_getElem?_getD, List.getElem?_eq_getElem hk]; exact List.getElem_mem hk
      rcases List.mem_or_eq_of_mem_set (r3 z hz) with hz | rfl
      · rcases List.mem_or_eq_of_mem_set hz with hz | rfl
        · exact hz
        · exact hm _ hj
      · exact hm _ z3
def Nf (l : List Ie) (t : Cd) : Option Nat := l.findIdx? fun r => Gj r t
def BK0 (l : List Ie) (t : Cd) (i : Nat) (xs : List Int) : Prop :=
  (xs = [] ∧ ∀ k, i ≤ k → k < l.length → Gj (l.getD k default) t = false) ∨
  ∃ k : Nat, xs ≠ [] ∧ xs.getD 0 default = (k : Int) ∧ i ≤ k ∧ k < l.length ∧ Gj (l.getD k default) t = true ∧ (∀ j, i ≤ j → j < k → Gj (l.getD j default) t = false) ∧ ∀ z ∈ xs, (i : Int) ≤ z
theorem qQ (l : List Ie) (t : Cd) : ∀ (n i : Nat) (xs : List Int), i < n → i ≤ l.length → BK0 l t i xs → BK0 l t 0 (Gw l t n ((i : Int) - 1) xs).2
  | 0, i, xs, h, _, _ => by omega
  | n + 1, i, xs, h, hi, ht => by
    unfold Gw
    cases i with
    | zero => rw [if_neg z3]; exact ht
    | succ i =>
      have e1 : (((i + 1 : Nat) : Int) - 1) = (i : Int) := by omega
      rw [e1, if_pos z3]
      have e2 : ((i : Int)).toNat = i := by omega
      rw [e2]
      by_cases hf : Gj (l.getD i default) t = true
      · rw [if_pos hf]
        have hlen : (xs ++ [(i : Int)]).length = xs.length + 1 := by simp
        have hgl : (xs ++ [(i : Int)]).getD xs.length default = (i : Int) := by simp [List.getD_eq_getElem?_getD]
        have hall : ∀ z ∈ xs, (i : Int) < z := fun z hz => by
          rcases ht with ⟨rfl, _⟩ | ⟨k, _, _, _, _, _, _, h7⟩
          · cases hz
          · have := h7 z hz; omega
        have hup := AS4 l t (i : Int) xs (((((xs ++ [(i : Int)]).length : Nat) : Int) - 1).toNat + 1) xs.length (xs ++ [(i : Int)]) (by rw [hlen]; omega) (by rw [hlen]; omega) (fun k hk hkj => by
          rw [hgl]
          have hk' : k < xs.length := by rw [hlen] at hk; omega
          rw [List.getD_eq_getElem?_getD, List.getElem?_append_left hk', List.getElem?_eq_getElem hk']
          exact hall _ (List.getElem_mem hk'))
        have e3 : (((xs ++ [(i : Int)]).length : Nat) : Int) - 1 = (xs.length : Int) := by rw [hlen]; omega
        rw [e3] at hup
        rw [e3]
        obtain ⟨r1, r2, r3⟩ := hup
        rw [hgl] at r1
        unfold Iu
        refine qQ l t n i _ z3 z3 (.inr ⟨i, ?_, r1, Nat.le_refl _, by omega, hf, fun j h1 h2 => by omega, fun z hz => ?_⟩)
        · intro e; rw [e] at r2; rw [hlen] at r2; simp at r2
        · have := r3 z hz
          rcases List.mem_append.1 this with h1 | h1
          · have := hall z h1; omega
          · rw [List.mem_singleton] at h1; omega
      · rw [if_neg hf]
        have hf' : Gj (l.getD i default) t = false := by cases hh : Gj (l.getD i default) t <;> simp_all
        refine qQ l t n i _ z3 z3 ?_
        rcases ht with ⟨rfl, h2⟩ | ⟨k, h0, h1, h2, h3, h4, h5, h6⟩
        · refine .inl ⟨rfl, fun k h1 h3 => ?_⟩
          by_cases e : k = i
          · subst e; exact hf'
          · exact h2 k z3 h3
        · refine .inr ⟨k, h0, h1, by omega, h3, h4, fun j h7 h8 => ?_, fun z hz => ?_⟩
          · by_cases e : j = i
            · subst e; exact hf'
            · exact h5 j z3 h8
          · have := h6 z hz; omega
theorem lY {l : List Ie} {t : Cd} {k : Nat} (h1 : k < l.length) (h2 : Gj (l.getD k default) t = true) (h3 : ∀ j, j < k → Gj (l.getD j default) t = false) : Nf l t = some k := by
  unfold Nf
  rw [List.findIdx?_eq_some_iff_getElem]
  refine ⟨h1, ?_, fun j hj => ?_⟩
  · rw [List.getD_eq_getElem?_getD, List.getElem?_eq_getElem h1] at h2; exact h2
  · have := h3 j hj
    rw [List.getD_eq_getElem?_getD, List.getElem?_eq_getElem z3] at this
    simpa using this
theorem lZ {l : List Ie} {t : Cd} (h : ∀ j, j < l.length → Gj (l.getD j default) t = false) : Nf l t = none := by
  unfold Nf
  rw [List.findIdx?_eq_none_iff]
  intro x hx
  obtain ⟨j, hj, rfl⟩ := List.getElem_of_mem hx
  have := h j hj
  rw [List.getD_eq_getElem?_getD, List.getElem?_eq_getElem hj] at this
  exact this
theorem uT {l : List Ie} {t : Cd} {k : Nat} (h : Nf l t = some k) : k < l.length ∧ Gj (l.getD k default) t = true ∧ ∀ j, j < k → Gj (l.getD j default) t = false := by
  unfold Nf at h
  rw [List.findIdx?_eq_some_iff_getElem] at h
  obtain ⟨h1, h2, h3⟩ := h
  refine ⟨h1, ?_, fun j hj => ?_⟩
  · rw [List.getD_eq_getElem?_getD, List.getElem?_eq_getElem h1]; exact h2
  · have := h3 j hj
    rw [List.getD_eq_getElem?_getD, List.getElem?_eq_getElem z3]
    simpa using this
def H8 (l : List Ie) (t : Cd) : Bool × Int × Int := match Nf l t with
  | none => (false, -1, 0)
  | some k => ((l.getD k default).allow, (k : Int), 0)
theorem qR (l : List Ie) (t : Cd) : Ek l t = if Jw l = false then (false, 0, 81) else if (Vr t).2 ≠ 0 then (false, 0, 71) else H8 l t := by
  unfold Ek
  by_cases h1 : Jw l = false
  · rw [if_pos h1, if_pos (by rw [h1]; rfl)]
  · have h1' : Jw l = true := by cases h : Jw l <;> simp_all
    rw [if_neg h1, if_neg (by rw [h1']; simp)]
    by_cases h2 : (Vr t).2 ≠ 0
    · rw [if_pos h2, if_pos h2]
    · rw [if_neg h2, if_neg h2]
      have hd := qQ l t ((((l.length : Nat) : Int) - 1 + 1).toNat + 1) l.length [] z3 (Nat.le_refl _) (.inl ⟨rfl, fun k h3 h4 => by omega⟩)
      unfold Iu H8
      generalize (Gw l t ((((l.length : Nat) : Int) - 1 + 1).toNat + 1) (((l.length : Nat) : Int) - 1) []) = q at hd ⊢
      rcases hd with ⟨h3, h4⟩ | ⟨k, h3, h4, _, h5, h6, h7, _⟩
      · rw [h3, lZ (fun j hj => h4 j (Nat.zero_le _) hj)]; simp
      · dsimp only
        rw [if_neg (by intro e; exact h3 (List.length_eq_zero_iff.1 z3)), h4, lY h5 h6 (fun j hj => h7 j (Nat.zero_le _) hj)]
        simp
theorem AO6 (l : List Ie) (t : Cd) : -1 ≤ (H8 l t).2.1 ∧ (H8 l t).2.1 ≤ (l.length : Int) ∧ (H8 l t).2.2 = 0 := by
  unfold H8
  cases h : Nf l t with
  | none => show -1 ≤ (-1 : Int) ∧ (-1 : Int) ≤ (l.length : Int) ∧ (0 : Int) = 0; omega
  | some k => have := (uT h).1; show -1 ≤ (k : Int) ∧ (k : Int) ≤ (l.length : Int) ∧ (0 : Int) = 0; omega
theorem Th (l : List Ie) (t : Cd) : -1 ≤ (Ek l t).2.1 ∧ (Ek l t).2.1 ≤ (l.length : Int) := by
  rw [qR]
  split
  · simp
  · split
    · simp
    · have := AO6 l t; exact ⟨this.1, this.2.1⟩
end Go.Proofs.YtdnjanhdnibkfaaGreatDoor.Jd

