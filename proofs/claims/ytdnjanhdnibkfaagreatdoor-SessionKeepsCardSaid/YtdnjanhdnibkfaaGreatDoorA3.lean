/- Part of the proofs of this seat: walks and plain facts. No condition. -/
import Derived.Test.YtdnjanhdnibkfaaGreatDoorA0
import Derived.Test.YtdnjanhdnibkfaaGreatDoorProg
import Derived.Test.YtdnjanhdnibkfaaGreatDoorChecked
import Derived.WalkKit
import Derived.LaidEql
import Derived.Stop.Asserts
import Derived.RowKitTokens
import Derived.Test.YtdnjanhdnibkfaaGreatDoorA2
import Derived.Test.YtdnjanhdnibkfaaGreatDoorA1
namespace Go.Proofs.YtdnjanhdnibkfaaGreatDoor.Jd
open Go.Proofs.Tryz
open Go.Proofs
open Go.RowKit (Below)
set_option maxRecDepth 100000
set_option maxHeartbeats 8000000
set_option linter.unusedVariables false
set_option linter.unusedSimpArgs false
theorem bU : Bl Tryz.prog 169 0 0 := fun r k w => by simp [Instr.fieldAt, Instr.sureAddr, fieldPlace, Bc]
theorem U9 : pW Tryz.prog 166 [(0, 1), (1, 1), (2, 1), (3, 1), (4, 1), (5, 1), (6, 1), (7, 1)] := ⟨_, _, _, fun w => runUnderlying166 w, fun w => sizeOf164 w, fun i q h => by
 have hi : i < 8 := by simpa using (List.getElem?_eq_some_iff.1 h).1
 (iterate 8 (rcases i with _ | i; · simpa using h.symm))
 omega⟩
theorem AZ5 : Fh Tryz.prog 169 [(0, 8)] := ⟨_, fun w => runUnderlying169 w, fun w => by simp⟩
theorem AZ6 : pW Tryz.prog 337 [(0, 1), (1, 1)] := ⟨_, _, _, fun w => runUnderlying337 w, fun w => sizeOf335 w, fun i q h => by
 have hi : i < 2 := by simpa using (List.getElem?_eq_some_iff.1 h).1
 (iterate 2 (rcases i with _ | i; · simpa using h.symm))
 omega⟩
theorem Rw : Ty Tryz.prog 5 1 1 (Value.int .u8 0) := ⟨⟨Tryz.t5, by kernel_rfl, rfl, rfl, rfl⟩, rfl⟩
theorem AM8 (w : World) {x : Int} {k : Int} : Ha Tryz.prog 266 [(Value.int .u32 x), (vi k)] w (Value.int .u32 (AZ2 x k)) := by
 have hF := Is.refl (AZ2 x k)
 refine enter func266 ntmps266 (h := ?_)
 refine Mq ?_
 refine Af (Ky rfl runUnderlying3 runUnderlying175) (k := ?_)
 refine Af Nn (k := ?_)
 refine Ji ?_
 refine Af (wU (h := by exact AM4 _ _)) (k := ?_)
 refine Sf ?_
 refine Af R0 (k := ?_)
 refine Af (Qy (h := by exact tW _)) (k := ?_)
 refine Af Rr (k := ?_)
 refine Z4 ?_
 refine Aa results266 z0 (fun w1 hw1 => ?_)
 exact ⟨(rq hF), hw1.ext_out⟩

theorem Te (w : World) {w_ : Int} {n_ : Int} : Ha Tryz.prog 250 [(Value.int .u32 w_), (vi n_)] w (Value.int .u32 (qA w_ n_)) := by
 have hF := Is.refl (qA w_ n_)
 refine enter func250 ntmps250 (h := ?_)
 refine Xv ?_
 refine Hp ?_
 refine Af AZ0 (k := ?_)
 refine Cy (Ac call266) (fun w1 hw1 => AM8 w1 (x := w_) (k := (IntKind.wrap .i64 (0 - n_)))) (k := ?_)
 refine Z4 ?_
 refine Aa results250 z0 (fun w1 hw1 => ?_)
 exact ⟨(rq hF), hw1.ext_out⟩

theorem zI (w : World) {w_ : Int} {a : Int} {b : Int} {c : Int} : Ha Tryz.prog 249 [(Value.int .u32 w_), (vi a), (vi b), (vi c)] w (Value.int .u32 (AM1 w_ a b c)) := by
 have hF := Is.refl (AM1 w_ a b c)
 refine enter func249 ntmps249 (h := ?_)
 refine Xv ?_
 refine Hp ?_
 refine Cy (Ac call250) (fun w1 hw1 => Te w1 (w_ := w_) (n_ := a)) (k := ?_)
 refine Sf ?_
 refine Cy (Ac call250) (fun w1 hw1 => Te w1 (w_ := w_) (n_ := b)) (k := ?_)
 refine Af Lx (k := ?_)
 refine Sf ?_
 refine Cy (Ac call250) (fun w1 hw1 => Te w1 (w_ := w_) (n_ := c)) (k := ?_)
 refine Af Lx (k := ?_)
 refine Z4 ?_
 refine Aa results249 z0 (fun w1 hw1 => ?_)
 exact ⟨(rq hF), hw1.ext_out⟩

theorem V0 (w : World) {w_ : Int} : Ha Tryz.prog 204 [(Value.int .u32 w_)] w (Value.int .u32 (zB w_)) := by
 have hF := Is.refl (zB w_)
 refine enter func204 ntmps204 (h := ?_)
 refine Mq ?_
 refine Cy (Ac call250) (fun w1 hw1 => Te w1 (w_ := w_) (n_ := 7)) (k := ?_)
 refine Ck ?_
 refine Cy (Ac call250) (fun w1 hw1 => Te w1 (w_ := w_) (n_ := 18)) (k := ?_)
 refine Af Lx (k := ?_)
 refine Ck ?_
 refine Af Qy (k := ?_)
 refine Af Lx (k := ?_)
 refine Z4 ?_
 refine Aa results204 z0 (fun w1 hw1 => ?_)
 exact ⟨(rq hF), hw1.ext_out⟩

theorem V1 (w : World) {w_ : Int} : Ha Tryz.prog 205 [(Value.int .u32 w_)] w (Value.int .u32 (zC w_)) := by
 have hF := Is.refl (zC w_)
 refine enter func205 ntmps205 (h := ?_)
 refine Mq ?_
 refine Cy (Ac call250) (fun w1 hw1 => Te w1 (w_ := w_) (n_ := 17)) (k := ?_)
 refine Ck ?_
 refine Cy (Ac call250) (fun w1 hw1 => Te w1 (w_ := w_) (n_ := 19)) (k := ?_)
 refine Af Lx (k := ?_)
 refine Ck ?_
 refine Af Qy (k := ?_)
 refine Af Lx (k := ?_)
 refine Z4 ?_
 refine Aa results205 z0 (fun w1 hw1 => ?_)
 exact ⟨(rq hF), hw1.ext_out⟩

theorem F6 (w : World) {w_ : Int} : Ha Tryz.prog 203 [(Value.int .u32 w_)] w (Value.int .u32 (qB w_)) := by
 have hF := Is.refl (qB w_)
 refine enter func203 ntmps203 (h := ?_)
 refine Mq ?_
 refine Cy (Ac call249) (fun w1 hw1 => zI w1 (w_ := w_) (a := 2) (b := 13) (c := 22)) (k := ?_)
 refine Z4 ?_
 refine Aa results203 z0 (fun w1 hw1 => ?_)
 exact ⟨(rq hF), hw1.ext_out⟩

theorem F7 (w : World) {w_ : Int} : Ha Tryz.prog 202 [(Value.int .u32 w_)] w (Value.int .u32 (dO w_)) := by
 have hF := Is.refl (dO w_)
 refine enter func202 ntmps202 (h := ?_)
 refine Mq ?_
 refine Cy (Ac call249) (fun w1 hw1 => zI w1 (w_ := w_) (a := 6) (b := 11) (c := 25)) (k := ?_)
 refine Z4 ?_
 refine Aa results202 z0 (fun w1 hw1 => ?_)
 exact ⟨(rq hF), hw1.ext_out⟩

theorem F8 (w : World) {b : An} (hb : b.length = 64) : Ha Tryz.prog 151 [(vt b)] w (Value.agg (aI .u32 (Sx b)).toArray) := by
 have hF := Is.refl (Sx b)
 refine enter func151 ntmps151 (h := ?_)
 refine Z2 ?_
 refine Ak Ag (Cj (l := aI .u32 (List.replicate 64 (0 : Int))) zeroValue245 z2) (k := fun r1 hr1 => ?_)
 have hrlr1 := List.length_replicate (n := 64) (a := (0 : Int))
 refine Od ?_
 refine Ak Ag (Cj (l := aI .u32 (List.replicate 64 (0 : Int))) zeroValue245 z2) (k := fun r2 hr2 => ?_)
 have hrlr2 := List.length_replicate (n := 64) (a := (0 : Int))
 refine Jr ?_
 refine Z3 ?_
 refine Nj ?_
 refine Il (σ1 := Nat) (σ2 := Nat) (σ3 := List Int) (fun n_3 x_1 x_2 => ((r2, Obj.cells (aI .u32 x_2).toArray 245) :: ((r1, Obj.cells (aI .u32 (List.replicate 64 (0 : Int))).toArray 245) :: []))) (fun n_3 x_1 x_2 => [(0, (vt b)), (2, (Value.pointer (some ⟨r1, 0, none⟩))), (3, (Value.pointer (some ⟨r2, 0, none⟩))), (7, (vi ((x_1 : Nat) : Int)))]) (fun n_3 x_1 x_2 => 64 - x_1 < n_3 ∧ Is (Mb b (64 + 1) 0 (List.replicate 64 (0 : Int))) (Mb b n_3 x_1 x_2) ∧ x_2.length = 64 ∧ x_1 ≤ 64) (fun n_3 x_1 x_2 => n_3) (64 + 1) 0 (List.replicate 64 (0 : Int)) ?_ se (List.Perm.refl _) ?_
 ·exact ⟨Nat.lt_succ_self _, Is.refl _, z4, z7⟩
 ·rintro (_ | n_3) x_1 x_2 ⟨hm5, hF4, hx_2, hi6⟩
  ·omega
  refine Zy ?_
  refine Bi rfl (fun hq1 => ?_) (fun hq1 => ?_)
  rotate_left
  ·refine Cu ?_
   refine Ia ?_
   refine Z2 ?_
   refine Af (R5 (xs := x_2) isAgg245 sizeOf245 z4) (k := ?_)
   refine Ep (E8 (xs := (List.replicate 64 (0 : Int))) (ys := x_2) sizeOf245 z4 z4) (k := ?_)
   refine kY ?_
   refine Aa results151 (Bw.agg isAgg245 sizeOf245 rfl me (zA (l := aI .u32 x_2) (by rw [Gp]; first | exact ix)) Bw.nil) (fun w1 hw1 => ?_)
   exact ⟨(rq (hF.rn2 (hF4.neg hq1))), hw1.ext_out⟩
  refine Py ?_
  refine Ib ?_
  refine Iv ?_
  refine Z9 ?_
  refine Bi rfl (fun hq2 => ?_) (fun hq2 => ?_)
  rotate_left
  ·refine Cg ?_
   refine Du ?_
   refine Eh mixed 23 [(true, 0), (true, 1), (true, 2), (true, 3), (true, 4), (true, 5), (true, 6), (true, 7), (true, 8), (true, 11), (true, 12), (true, 13), (true, 14), (true, 16), (true, 17), (true, 18), (true, 19), (false, 9), (true, 10), (true, 15), (false, 20), (true, 21), (true, 22)] z2 ?_
   refine Li ?_
   refine Be mM (k := ?_)
   refine Be (Ra ((((x_1 : Nat) : Int) - 16).toNat) ((((x_1 : Nat) : Int) - 16).toNat) runUnderlying245 sizeOf164 (hm := z4)) (k := ?_)
   refine Be (Ss (m := ((((x_1 : Nat) : Int) - 16).toNat)) (xs := x_2) isAgg164 z4) (k := ?_)
   refine Fo ?_
   refine Be mM (k := ?_)
   refine Be (Ra ((((x_1 : Nat) : Int) - 15).toNat) ((((x_1 : Nat) : Int) - 15).toNat) runUnderlying245 sizeOf164 (hm := z4)) (k := ?_)
   refine Be (Ss (m := ((((x_1 : Nat) : Int) - 15).toNat)) (xs := x_2) isAgg164 z4) (k := ?_)
   refine Fo ?_
   refine Be mM (k := ?_)
   refine Be (Ra ((((x_1 : Nat) : Int) - 7).toNat) ((((x_1 : Nat) : Int) - 7).toNat) runUnderlying245 sizeOf164 (hm := z4)) (k := ?_)
   refine Be (Ss (m := ((((x_1 : Nat) : Int) - 7).toNat)) (xs := x_2) isAgg164 z4) (k := ?_)
   refine Fo ?_
   refine Be mM (k := ?_)
   refine Be (Ra ((((x_1 : Nat) : Int) - 2).toNat) ((((x_1 : Nat) : Int) - 2).toNat) runUnderlying245 sizeOf164 (hm := z4)) (k := ?_)
   refine Be (Ss (m := ((((x_1 : Nat) : Int) - 2).toNat)) (xs := x_2) isAgg164 z4) (k := ?_)
   refine Yv (Ac call204) (fun w1 hw1 => V0 w1 (w_ := (x_2.getD ((((x_1 : Nat) : Int) - 15).toNat) default))) (k := ?_)
   refine Be Qx (k := ?_)
   refine Be Qx (k := ?_)
   refine Yv (Ac call205) (fun w1 hw1 => V1 w1 (w_ := (x_2.getD ((((x_1 : Nat) : Int) - 2).toNat) default))) (k := ?_)
   refine Be Qx (k := ?_)
   refine Be (Ra x_1 x_1 runUnderlying245 sizeOf164 (hm := z4)) (k := ?_)
   refine Mm ?_
   refine Ep (tL (m := x_1) (xs := x_2) sizeOf164 z4) (k := ?_)
   refine Dz ?_
   refine Ux ?_
   exact Ga n_3 (x_1 + 1) (x_2.set x_1 (IntKind.u32.wrap ((IntKind.u32.wrap ((IntKind.u32.wrap ((x_2.getD ((((x_1 : Nat) : Int) - 16).toNat) default) + (zB (x_2.getD ((((x_1 : Nat) : Int) - 15).toNat) default)))) + (x_2.getD ((((x_1 : Nat) : Int) - 7).toNat) default))) + (zC (x_2.getD ((((x_1 : Nat) : Int) - 2).toNat) default))))) ⟨by omega, ((hF4.pos hq1).neg hq2), z4, z3⟩ (Nat.lt_succ_self _) se (List.Perm.refl _)
  refine Eu ?_
  refine Hp ?_
  refine Af mN (k := ?_)
  refine Ck ?_
  refine Af mN (k := ?_)
  refine dE ?_
  refine Af (AY4 (s := b) (4 * x_1) ((4 * x_1) + 4) runUnderlying9 z3 z3) (k := ?_)
  have hsb3 : ((b.take ((4 * x_1) + 4)).drop (4 * x_1)).length = ((4 * x_1) + 4) - (4 * x_1) := by first | omega | (simp only [List.length_take, List.length_drop, List.length_cons, List.length_nil] <;> omega)
  refine tM (s := ((b.take ((4 * x_1) + 4)).drop (4 * x_1))) underlying9 underlying174 underlying5 (k := fun ax1 cx1 Bx1 hox1 => ?_)
  have hbl1 := Cw (s := ((b.take ((4 * x_1) + 4)).drop (4 * x_1)))
  refine Af (Fg runUnderlying174) (k := ?_)
  refine Rh ?_
  refine Il (σ1 := Nat) (σ2 := Nat) (σ3 := List Int) (fun n_9 x_7 x_8 => (Bx1 ++ ((r2, Obj.cells (aI .u32 x_8).toArray 245) :: ((r1, Obj.cells (aI .u32 (List.replicate 64 (0 : Int))).toArray 245) :: [])))) (fun n_9 x_7 x_8 => [(0, (vt b)), (2, (Value.pointer (some ⟨r1, 0, none⟩))), (3, (Value.pointer (some ⟨r2, 0, none⟩))), (4, (vi ((x_1 : Nat) : Int))), (7, (vi ((x_1 : Nat) : Int))), (19, (vs ax1 ((Lg ((b.take ((4 * x_1) + 4)).drop (4 * x_1))).length) cx1)), (20, (vi ((((Lg ((b.take ((4 * x_1) + 4)).drop (4 * x_1))).length) : Nat) : Int))), (21, (vi ((x_7 : Nat) : Int)))]) (fun n_9 x_7 x_8 => ((Lg ((b.take ((4 * x_1) + 4)).drop (4 * x_1))).length) - x_7 < n_9 ∧ Is (Ox b x_1 x_2 (((Lg ((b.take ((4 * x_1) + 4)).drop (4 * x_1))).length) + 1) 0 x_2) (Ox b x_1 x_2 n_9 x_7 x_8) ∧ x_8.length = 64) (fun n_9 x_7 x_8 => n_9) (((Lg ((b.take ((4 * x_1) + 4)).drop (4 * x_1))).length) + 1) 0 x_2 ?_ se (List.Perm.refl _) ?_
  ·exact ⟨Nat.lt_succ_self _, Is.refl _, z4⟩
  ·rintro (_ | n_9) x_7 x_8 ⟨hm11, hF10, hx_8⟩
   ·omega
   refine Zy ?_
   refine Bi rfl (fun hq3 => ?_) (fun hq3 => ?_)
   rotate_left
   ·refine Cu ?_
    refine Ia ?_
    refine Cu ?_
    refine Gs ?_
    refine sK ?_
    refine Cp ?_
    refine Z8 ?_
    refine Dz ?_
    refine Dt _ ((qc (qa q0)).trans (qa (qc q0))) ?_
    refine Cn _ (List.Sublist.cons_cons _ (List.Sublist.cons_cons _ Mo)) ?_
    exact Ga n_3 (x_1 + 1) x_8 ⟨by omega, (((hF4.pos hq1).pos hq2).rn2 (hF10.neg hq3)), z4, z3⟩ (Nat.lt_succ_self _) se (List.Perm.refl _)
   refine dD ?_
   refine Af (Cz (n := (Lg ((b.take ((4 * x_1) + 4)).drop (4 * x_1))).length) runUnderlying174 sizeOf5 x_7 (hox1.slj Bz) (gD z4) Kc) (k := ?_)
   refine Af (Ci isAgg5 x_7 0 (hox1.slj Bz) (gD z4)) (k := ?_)
   refine Z1 ?_
   refine Sd ?_
   refine Af (Ra x_1 x_1 runUnderlying245 sizeOf164 (hm := z4)) (k := ?_)
   refine Af (Ss (m := x_1) (xs := x_8) isAgg164 z4) (k := ?_)
   refine N3 ?_
   refine Af (Ky rfl runUnderlying5 runUnderlying164) (k := ?_)
   refine Af Rr (k := ?_)
   refine Af (Ra x_1 x_1 runUnderlying245 sizeOf164 (hm := z4)) (k := ?_)
   refine Ep (tL (m := x_1) (xs := x_8) sizeOf164 z4) (k := ?_)
   refine Dz ?_
   refine Ux ?_
   exact Ga n_9 (x_7 + 1) (x_8.set x_1 (tH .u32 (fZ .u32 (x_8.getD x_1 default) 8) (IntKind.u32.wrap ((Lg ((b.take ((4 * x_1) + 4)).drop (4 * x_1))).getD x_7 default)))) ⟨by omega, (hF10.pos hq3), z4⟩ (Nat.lt_succ_self _) se (List.Perm.refl _)

theorem AM9 (w : World) {s : An} (n_s : s.length ≤ 10000000) : Ha Tryz.prog 96 [(vt s)] w (vt (tS s)) := by
 have hF := Is.refl (tS s)
 refine enter func96 ntmps96 (h := ?_)
 refine Mq ?_
 refine iW ?_
 refine Af mN (k := ?_)
 refine Hq ?_
 refine tM (s := s) underlying9 underlying174 underlying5 (k := fun ax1 cx1 Bx1 hox1 => ?_)
 have hbl1 := Cw (s := s)
 refine Ak Ag I9 (k := fun r1 hr1 => ?_)
 refine Bb ((Lg s) ++ ([128] : List Int)) rfl Rw underlying174 Bz hox1 (qb q0) (Cl.lit (xs := ([128] : List Int)) Bz) ⟨by omega, by omega⟩ (n := (Lg s).length) (m := 1) (k := fun ax2 cx2 Bx2 hox2 => ?_)
 have hal2 : ((Lg s) ++ ([128] : List Int)).length = (Lg s).length + 1 := by first | rfl | exact List.length_append | simp
 refine Z1 ?_
 refine yI ?_
 refine aO (σ1 := Nat) (σ2 := List Int) (σ3 := Option Addr) (σ4 := Nat) (σ5 := Av) (fun n_2 out_1 out_1a out_1c out_1B => (out_1B ++ ((r1, oc [(Value.int .u8 128)] 5) :: []))) (fun n_2 out_1 out_1a out_1c out_1B => [(2, (vt ([] : An))), (3, (vi (((s.length : Nat) : Int) * 8))), (4, (vs out_1a out_1.length out_1c))]) (fun n_2 out_1 out_1a out_1c out_1B => (120 - out_1.length % 64) % 64 < n_2 ∧ Is (gW s ((120 - ((Lg s) ++ ([128] : List Int)).length % 64) % 64 + 1) ((Lg s) ++ ([128] : List Int))) (gW s n_2 out_1) ∧ Bt eN 1 5 out_1a out_1c out_1B out_1 ∧ out_1.length + (120 - out_1.length % 64) % 64 ≤ s.length + 64) (fun n_2 out_1 out_1a out_1c out_1B => n_2) ((120 - ((Lg s) ++ ([128] : List Int)).length % 64) % 64 + 1) ((Lg s) ++ ([128] : List Int)) ax2 cx2 Bx2 ?_ se (List.Perm.refl _) ?_
 ·exact ⟨Nat.lt_succ_self _, Is.refl _, hox2, z7⟩
 ·rintro (_ | n_2) out_1 out_1a out_1c out_1B ⟨hm4, hF3, hout_1, hi5⟩
  ·omega
  refine fL ?_
  refine Af (Fg runUnderlying174) (k := ?_)
  refine Af AR9 (k := ?_)
  refine cU ?_
  refine Bi rfl (fun hq1 => ?_) (fun hq1 => ?_)
  ·refine Cg ?_
   refine Du ?_
   refine Gr ?_
   refine Jt ?_
   refine Ak Ag I9 (k := fun r2 hr2 => ?_)
   refine Bb (out_1 ++ ([0] : List Int)) rfl Rw underlying174 Bz hout_1 (qb q0) (Cl.lit (xs := ([0] : List Int)) Bz) ⟨by omega, by omega⟩ (n := out_1.length) (m := 1) (k := fun ax3 cx3 Bx3 hox3 => ?_)
   have hal3 : (out_1 ++ ([0] : List Int)).length = out_1.length + 1 := by first | rfl | exact List.length_append | simp
   refine Mj ?_
   refine Fr ?_
   refine Dt _ ((qc (qa q0)).trans (qb q0)) ?_
   refine Cn _ (List.Sublist.append z37 (List.Sublist.cons_cons _ Mo)) ?_
   exact aP n_2 (out_1 ++ ([0] : List Int)) ax3 cx3 Bx3 ⟨by omega, (hF3.pos hq1), hox3, z3⟩ (Nat.lt_succ_self _) se (List.Perm.refl _)
  refine Cu ?_
  refine Ia ?_
  refine Eu ?_
  refine iQ ?_
  refine jM ?_
  refine AF1 ?_
  refine Z52 ?_
  refine iO ?_
  refine rP ?_
  refine Ak Ag I9 (k := fun r3 hr3 => ?_)
  refine Bb (out_1 ++ ([(IntKind.u8.wrap (Ae .i64 (((s.length : Nat) : Int) * 8) 56))] : List Int)) rfl Rw underlying174 Bz hout_1 (qb q0) (Cl.lit (xs := ([(IntKind.u8.wrap (Ae .i64 (((s.length : Nat) : Int) * 8) 56))] : List Int)) Bz) ⟨by omega, by omega⟩ (n := out_1.length) (m := 1) (k := fun ax4 cx4 Bx4 hox4 => ?_)
  have hal4 : (out_1 ++ ([(IntKind.u8.wrap (Ae .i64 (((s.length : Nat) : Int) * 8) 56))] : List Int)).length = out_1.length + 1 := by first | rfl | exact List.length_append | simp
  refine dA ?_
  refine fP ?_
  refine Z52 ?_
  refine iO ?_
  refine rP ?_
  refine Ak Ag I9 (k := fun r4 hr4 => ?_)
  refine Bb ((out_1 ++ ([(IntKind.u8.wrap (Ae .i64 (((s.length : Nat) : Int) * 8) 56))] : List Int)) ++ ([(IntKind.u8.wrap (Ae .i64 (((s.length : Nat) : Int) * 8) 48))] : List Int)) rfl Rw underlying174 Bz hox4 (qb q0) (Cl.lit (xs := ([(IntKind.u8.wrap (Ae .i64 (((s.length : Nat) : Int) * 8) 48))] : List Int)) Bz) ⟨by omega, by omega⟩ (n := (out_1 ++ ([(IntKind.u8.wrap (Ae .i64 (((s.length : Nat) : Int) * 8) 56))] : List Int)).length) (m := 1) (k := fun ax5 cx5 Bx5 hox5 => ?_)
  have hal5 : ((out_1 ++ ([(IntKind.u8.wrap (Ae .i64 (((s.length : Nat) : Int) * 8) 56))] : List Int)) ++ ([(IntKind.u8.wrap (Ae .i64 (((s.length : Nat) : Int) * 8) 48))] : List Int)).length = (out_1 ++ ([(IntKind.u8.wrap (Ae .i64 (((s.length : Nat) : Int) * 8) 56))] : List Int)).length + 1 := by first | rfl | exact List.length_append | simp
  refine dA ?_
  refine fP ?_
  refine Z52 ?_
  refine iO ?_
  refine rP ?_
  refine Ak Ag I9 (k := fun r5 hr5 => ?_)
  refine Bb (((out_1 ++ ([(IntKind.u8.wrap (Ae .i64 (((s.length : Nat) : Int) * 8) 56))] : List Int)) ++ ([(IntKind.u8.wrap (Ae .i64 (((s.length : Nat) : Int) * 8) 48))] : List Int)) ++ ([(IntKind.u8.wrap (Ae .i64 (((s.length : Nat) : Int) * 8) 40))] : List Int)) rfl Rw underlying174 Bz hox5 (qb q0) (Cl.lit (xs := ([(IntKind.u8.wrap (Ae .i64 (((s.length : Nat) : Int) * 8) 40))] : List Int)) Bz) ⟨by omega, by omega⟩ (n := ((out_1 ++ ([(IntKind.u8.wrap (Ae .i64 (((s.length : Nat) : Int) * 8) 56))] : List Int)) ++ ([(IntKind.u8.wrap (Ae .i64 (((s.length : Nat) : Int) * 8) 48))] : List Int)).length) (m := 1) (k := fun ax6 cx6 Bx6 hox6 => ?_)
  have hal6 : (((out_1 ++ ([(IntKind.u8.wrap (Ae .i64 (((s.length : Nat) : Int) * 8) 56))] : List Int)) ++ ([(IntKind.u8.wrap (Ae .i64 (((s.length : Nat) : Int) * 8) 48))] : List Int)) ++ ([(IntKind.u8.wrap (Ae .i64 (((s.length : Nat) : Int) * 8) 40))] : List Int)).length = ((out_1 ++ ([(IntKind.u8.wrap (Ae .i64 (((s.length : Nat) : Int) * 8) 56))] : List Int)) ++ ([(IntKind.u8.wrap (Ae .i64 (((s.length : Nat) : Int) * 8) 48))] : List Int)).length + 1 := by first | rfl | exact List.length_append | simp
  refine dA ?_
  refine fP ?_
  refine Z52 ?_
  refine iO ?_
  refine rP ?_
  refine Ak Ag I9 (k := fun r6 hr6 => ?_)
  refine Bb ((((out_1 ++ ([(IntKind.u8.wrap (Ae .i64 (((s.length : Nat) : Int) * 8) 56))] : List Int)) ++ ([(IntKind.u8.wrap (Ae .i64 (((s.length : Nat) : Int) * 8) 48))] : List Int)) ++ ([(IntKind.u8.wrap (Ae .i64 (((s.length : Nat) : Int) * 8) 40))] : List Int)) ++ ([(IntKind.u8.wrap (Ae .i64 (((s.length : Nat) : Int) * 8) 32))] : List Int)) rfl Rw underlying174 Bz hox6 (qb q0) (Cl.lit (xs := ([(IntKind.u8.wrap (Ae .i64 (((s.length : Nat) : Int) * 8) 32))] : List Int)) Bz) ⟨by omega, by omega⟩ (n := (((out_1 ++ ([(IntKind.u8.wrap (Ae .i64 (((s.length : Nat) : Int) * 8) 56))] : List Int)) ++ ([(IntKind.u8.wrap (Ae .i64 (((s.length : Nat) : Int) * 8) 48))] : List Int)) ++ ([(IntKind.u8.wrap (Ae .i64 (((s.length : Nat) : Int) * 8) 40))] : List Int)).length) (m := 1) (k := fun ax7 cx7 Bx7 hox7 => ?_)
  have hal7 : ((((out_1 ++ ([(IntKind.u8.wrap (Ae .i64 (((s.length : Nat) : Int) * 8) 56))] : List Int)) ++ ([(IntKind.u8.wrap (Ae .i64 (((s.length : Nat) : Int) * 8) 48))] : List Int)) ++ ([(IntKind.u8.wrap (Ae .i64 (((s.length : Nat) : Int) * 8) 40))] : List Int)) ++ ([(IntKind.u8.wrap (Ae .i64 (((s.length : Nat) : Int) * 8) 32))] : List Int)).length = (((out_1 ++ ([(IntKind.u8.wrap (Ae .i64 (((s.length : Nat) : Int) * 8) 56))] : List Int)) ++ ([(IntKind.u8.wrap (Ae .i64 (((s.length : Nat) : Int) * 8) 48))] : List Int)) ++ ([(IntKind.u8.wrap (Ae .i64 (((s.length : Nat) : Int) * 8) 40))] : List Int)).length + 1 := by first | rfl | exact List.length_append | simp
  refine dA ?_
  refine fP ?_
  refine Z52 ?_
  refine iO ?_
  refine rP ?_
  refine Ak Ag I9 (k := fun r7 hr7 => ?_)
  refine Bb (((((out_1 ++ ([(IntKind.u8.wrap (Ae .i64 (((s.length : Nat) : Int) * 8) 56))] : List Int)) ++ ([(IntKind.u8.wrap (Ae .i64 (((s.length : Nat) : Int) * 8) 48))] : List Int)) ++ ([(IntKind.u8.wrap (Ae .i64 (((s.length : Nat) : Int) * 8) 40))] : List Int)) ++ ([(IntKind.u8.wrap (Ae .i64 (((s.length : Nat) : Int) * 8) 32))] : List Int)) ++ ([(IntKind.u8.wrap (Ae .i64 (((s.length : Nat) : Int) * 8) 24))] : List Int)) rfl Rw underlying174 Bz hox7 (qb q0) (Cl.lit (xs := ([(IntKind.u8.wrap (Ae .i64 (((s.length : Nat) : Int) * 8) 24))] : List Int)) Bz) ⟨by omega, by omega⟩ (n := ((((out_1 ++ ([(IntKind.u8.wrap (Ae .i64 (((s.length : Nat) : Int) * 8) 56))] : List Int)) ++ ([(IntKind.u8.wrap (Ae .i64 (((s.length : Nat) : Int) * 8) 48))] : List Int)) ++ ([(IntKind.u8.wrap (Ae .i64 (((s.length : Nat) : Int) * 8) 40))] : List Int)) ++ ([(IntKind.u8.wrap (Ae .i64 (((s.length : Nat) : Int) * 8) 32))] : List Int)).length) (m := 1) (k := fun ax8 cx8 Bx8 hox8 => ?_)
  have hal8 : (((((out_1 ++ ([(IntKind.u8.wrap (Ae .i64 (((s.length : Nat) : Int) * 8) 56))] : List Int)) ++ ([(IntKind.u8.wrap (Ae .i64 (((s.length : Nat) : Int) * 8) 48))] : List Int)) ++ ([(IntKind.u8.wrap (Ae .i64 (((s.length : Nat) : Int) * 8) 40))] : List Int)) ++ ([(IntKind.u8.wrap (Ae .i64 (((s.length : Nat) : Int) * 8) 32))] : List Int)) ++ ([(IntKind.u8.wrap (Ae .i64 (((s.length : Nat) : Int) * 8) 24))] : List Int)).length = ((((out_1 ++ ([(IntKind.u8.wrap (Ae .i64 (((s.length : Nat) : Int) * 8) 56))] : List Int)) ++ ([(IntKind.u8.wrap (Ae .i64 (((s.length : Nat) : Int) * 8) 48))] : List Int)) ++ ([(IntKind.u8.wrap (Ae .i64 (((s.length : Nat) : Int) * 8) 40))] : List Int)) ++ ([(IntKind.u8.wrap (Ae .i64 (((s.length : Nat) : Int) * 8) 32))] : List Int)).length + 1 := by first | rfl | exact List.length_append | simp
  refine dA ?_
  refine fP ?_
  refine Z52 ?_
  refine iO ?_
  refine rP ?_
  refine Ak Ag I9 (k := fun r8 hr8 => ?_)
  refine Bb ((((((out_1 ++ ([(IntKind.u8.wrap (Ae .i64 (((s.length : Nat) : Int) * 8) 56))] : List Int)) ++ ([(IntKind.u8.wrap (Ae .i64 (((s.length : Nat) : Int) * 8) 48))] : List Int)) ++ ([(IntKind.u8.wrap (Ae .i64 (((s.length : Nat) : Int) * 8) 40))] : List Int)) ++ ([(IntKind.u8.wrap (Ae .i64 (((s.length : Nat) : Int) * 8) 32))] : List Int)) ++ ([(IntKind.u8.wrap (Ae .i64 (((s.length : Nat) : Int) * 8) 24))] : List Int)) ++ ([(IntKind.u8.wrap (Ae .i64 (((s.length : Nat) : Int) * 8) 16))] : List Int)) rfl Rw underlying174 Bz hox8 (qb q0) (Cl.lit (xs := ([(IntKind.u8.wrap (Ae .i64 (((s.length : Nat) : Int) * 8) 16))] : List Int)) Bz) ⟨by omega, by omega⟩ (n := (((((out_1 ++ ([(IntKind.u8.wrap (Ae .i64 (((s.length : Nat) : Int) * 8) 56))] : List Int)) ++ ([(IntKind.u8.wrap (Ae .i64 (((s.length : Nat) : Int) * 8) 48))] : List Int)) ++ ([(IntKind.u8.wrap (Ae .i64 (((s.length : Nat) : Int) * 8) 40))] : List Int)) ++ ([(IntKind.u8.wrap (Ae .i64 (((s.length : Nat) : Int) * 8) 32))] : List Int)) ++ ([(IntKind.u8.wrap (Ae .i64 (((s.length : Nat) : Int) * 8) 24))] : List Int)).length) (m := 1) (k := fun ax9 cx9 Bx9 hox9 => ?_)
  have hal9 : ((((((out_1 ++ ([(IntKind.u8.wrap (Ae .i64 (((s.length : Nat) : Int) * 8) 56))] : List Int)) ++ ([(IntKind.u8.wrap (Ae .i64 (((s.length : Nat) : Int) * 8) 48))] : List Int)) ++ ([(IntKind.u8.wrap (Ae .i64 (((s.length : Nat) : Int) * 8) 40))] : List Int)) ++ ([(IntKind.u8.wrap (Ae .i64 (((s.length : Nat) : Int) * 8) 32))] : List Int)) ++ ([(IntKind.u8.wrap (Ae .i64 (((s.length : Nat) : Int) * 8) 24))] : List Int)) ++ ([(IntKind.u8.wrap (Ae .i64 (((s.length : Nat) : Int) * 8) 16))] : List Int)).length = (((((out_1 ++ ([(IntKind.u8.wrap (Ae .i64 (((s.length : Nat) : Int) * 8) 56))] : List Int)) ++ ([(IntKind.u8.wrap (Ae .i64 (((s.length : Nat) : Int) * 8) 48))] : List Int)) ++ ([(IntKind.u8.wrap (Ae .i64 (((s.length : Nat) : Int) * 8) 40))] : List Int)) ++ ([(IntKind.u8.wrap (Ae .i64 (((s.length : Nat) : Int) * 8) 32))] : List Int)) ++ ([(IntKind.u8.wrap (Ae .i64 (((s.length : Nat) : Int) * 8) 24))] : List Int)).length + 1 := by first | rfl | exact List.length_append | simp
  refine dA ?_
  refine fP ?_
  refine Z52 ?_
  refine iO ?_
  refine rP ?_
  refine Ak Ag I9 (k := fun r9 hr9 => ?_)
  refine Bb (((((((out_1 ++ ([(IntKind.u8.wrap (Ae .i64 (((s.length : Nat) : Int) * 8) 56))] : List Int)) ++ ([(IntKind.u8.wrap (Ae .i64 (((s.length : Nat) : Int) * 8) 48))] : List Int)) ++ ([(IntKind.u8.wrap (Ae .i64 (((s.length : Nat) : Int) * 8) 40))] : List Int)) ++ ([(IntKind.u8.wrap (Ae .i64 (((s.length : Nat) : Int) * 8) 32))] : List Int)) ++ ([(IntKind.u8.wrap (Ae .i64 (((s.length : Nat) : Int) * 8) 24))] : List Int)) ++ ([(IntKind.u8.wrap (Ae .i64 (((s.length : Nat) : Int) * 8) 16))] : List Int)) ++ ([(IntKind.u8.wrap (Ae .i64 (((s.length : Nat) : Int) * 8) 8))] : List Int)) rfl Rw underlying174 Bz hox9 (qb q0) (Cl.lit (xs := ([(IntKind.u8.wrap (Ae .i64 (((s.length : Nat) : Int) * 8) 8))] : List Int)) Bz) ⟨by omega, by omega⟩ (n := ((((((out_1 ++ ([(IntKind.u8.wrap (Ae .i64 (((s.length : Nat) : Int) * 8) 56))] : List Int)) ++ ([(IntKind.u8.wrap (Ae .i64 (((s.length : Nat) : Int) * 8) 48))] : List Int)) ++ ([(IntKind.u8.wrap (Ae .i64 (((s.length : Nat) : Int) * 8) 40))] : List Int)) ++ ([(IntKind.u8.wrap (Ae .i64 (((s.length : Nat) : Int) * 8) 32))] : List Int)) ++ ([(IntKind.u8.wrap (Ae .i64 (((s.length : Nat) : Int) * 8) 24))] : List Int)) ++ ([(IntKind.u8.wrap (Ae .i64 (((s.length : Nat) : Int) * 8) 16))] : List Int)).length) (m := 1) (k := fun ax10 cx10 Bx10 hox10 => ?_)
  have hal10 : (((((((out_1 ++ ([(IntKind.u8.wrap (Ae .i64 (((s.length : Nat) : Int) * 8) 56))] : List Int)) ++ ([(IntKind.u8.wrap (Ae .i64 (((s.length : Nat) : Int) * 8) 48))] : List Int)) ++ ([(IntKind.u8.wrap (Ae .i64 (((s.length : Nat) : Int) * 8) 40))] : List Int)) ++ ([(IntKind.u8.wrap (Ae .i64 (((s.length : Nat) : Int) * 8) 32))] : List Int)) ++ ([(IntKind.u8.wrap (Ae .i64 (((s.length : Nat) : Int) * 8) 24))] : List Int)) ++ ([(IntKind.u8.wrap (Ae .i64 (((s.length : Nat) : Int) * 8) 16))] : List Int)) ++ ([(IntKind.u8.wrap (Ae .i64 (((s.length : Nat) : Int) * 8) 8))] : List Int)).length = ((((((out_1 ++ ([(IntKind.u8.wrap (Ae .i64 (((s.length : Nat) : Int) * 8) 56))] : List Int)) ++ ([(IntKind.u8.wrap (Ae .i64 (((s.length : Nat) : Int) * 8) 48))] : List Int)) ++ ([(IntKind.u8.wrap (Ae .i64 (((s.length : Nat) : Int) * 8) 40))] : List Int)) ++ ([(IntKind.u8.wrap (Ae .i64 (((s.length : Nat) : Int) * 8) 32))] : List Int)) ++ ([(IntKind.u8.wrap (Ae .i64 (((s.length : Nat) : Int) * 8) 24))] : List Int)) ++ ([(IntKind.u8.wrap (Ae .i64 (((s.length : Nat) : Int) * 8) 16))] : List Int)).length + 1 := by first | rfl | exact List.length_append | simp
  refine dA ?_
  refine fP ?_
  refine Z52 ?_
  refine iO ?_
  refine rP ?_
  refine Ak Ag I9 (k := fun r10 hr10 => ?_)
  refine Bb ((((((((out_1 ++ ([(IntKind.u8.wrap (Ae .i64 (((s.length : Nat) : Int) * 8) 56))] : List Int)) ++ ([(IntKind.u8.wrap (Ae .i64 (((s.length : Nat) : Int) * 8) 48))] : List Int)) ++ ([(IntKind.u8.wrap (Ae .i64 (((s.length : Nat) : Int) * 8) 40))] : List Int)) ++ ([(IntKind.u8.wrap (Ae .i64 (((s.length : Nat) : Int) * 8) 32))] : List Int)) ++ ([(IntKind.u8.wrap (Ae .i64 (((s.length : Nat) : Int) * 8) 24))] : List Int)) ++ ([(IntKind.u8.wrap (Ae .i64 (((s.length : Nat) : Int) * 8) 16))] : List Int)) ++ ([(IntKind.u8.wrap (Ae .i64 (((s.length : Nat) : Int) * 8) 8))] : List Int)) ++ ([(IntKind.u8.wrap (Ae .i64 (((s.length : Nat) : Int) * 8) 0))] : List Int)) rfl Rw underlying174 Bz hox10 (qb q0) (Cl.lit (xs := ([(IntKind.u8.wrap (Ae .i64 (((s.length : Nat) : Int) * 8) 0))] : List Int)) Bz) ⟨by omega, by omega⟩ (n := (((((((out_1 ++ ([(IntKind.u8.wrap (Ae .i64 (((s.length : Nat) : Int) * 8) 56))] : List Int)) ++ ([(IntKind.u8.wrap (Ae .i64 (((s.length : Nat) : Int) * 8) 48))] : List Int)) ++ ([(IntKind.u8.wrap (Ae .i64 (((s.length : Nat) : Int) * 8) 40))] : List Int)) ++ ([(IntKind.u8.wrap (Ae .i64 (((s.length : Nat) : Int) * 8) 32))] : List Int)) ++ ([(IntKind.u8.wrap (Ae .i64 (((s.length : Nat) : Int) * 8) 24))] : List Int)) ++ ([(IntKind.u8.wrap (Ae .i64 (((s.length : Nat) : Int) * 8) 16))] : List Int)) ++ ([(IntKind.u8.wrap (Ae .i64 (((s.length : Nat) : Int) * 8) 8))] : List Int)).length) (m := 1) (k := fun ax11 cx11 Bx11 hox11 => ?_)
  have hal11 : ((((((((out_1 ++ ([(IntKind.u8.wrap (Ae .i64 (((s.length : Nat) : Int) * 8) 56))] : List Int)) ++ ([(IntKind.u8.wrap (Ae .i64 (((s.length : Nat) : Int) * 8) 48))] : List Int)) ++ ([(IntKind.u8.wrap (Ae .i64 (((s.length : Nat) : Int) * 8) 40))] : List Int)) ++ ([(IntKind.u8.wrap (Ae .i64 (((s.length : Nat) : Int) * 8) 32))] : List Int)) ++ ([(IntKind.u8.wrap (Ae .i64 (((s.length : Nat) : Int) * 8) 24))] : List Int)) ++ ([(IntKind.u8.wrap (Ae .i64 (((s.length : Nat) : Int) * 8) 16))] : List Int)) ++ ([(IntKind.u8.wrap (Ae .i64 (((s.length : Nat) : Int) * 8) 8))] : List Int)) ++ ([(IntKind.u8.wrap (Ae .i64 (((s.length : Nat) : Int) * 8) 0))] : List Int)).length = (((((((out_1 ++ ([(IntKind.u8.wrap (Ae .i64 (((s.length : Nat) : Int) * 8) 56))] : List Int)) ++ ([(IntKind.u8.wrap (Ae .i64 (((s.length : Nat) : Int) * 8) 48))] : List Int)) ++ ([(IntKind.u8.wrap (Ae .i64 (((s.length : Nat) : Int) * 8) 40))] : List Int)) ++ ([(IntKind.u8.wrap (Ae .i64 (((s.length : Nat) : Int) * 8) 32))] : List Int)) ++ ([(IntKind.u8.wrap (Ae .i64 (((s.length : Nat) : Int) * 8) 24))] : List Int)) ++ ([(IntKind.u8.wrap (Ae .i64 (((s.length : Nat) : Int) * 8) 16))] : List Int)) ++ ([(IntKind.u8.wrap (Ae .i64 (((s.length : Nat) : Int) * 8) 8))] : List Int)).length + 1 := by first | rfl | exact List.length_append | simp
  refine dA ?_
  refine fP ?_
  refine kZ ?_
  refine Ia ?_
  refine Z3 ?_
  refine Af (jR underlying9 underlying174 underlying5 (hox11.slj Bz)) (k := ?_)
  refine Z4 ?_
  refine Aa results96 z0 (fun w1 hw1 => ?_)
  exact ⟨(rq (hF.rn1 (hF3.neg hq1))), hw1.ext_out⟩

theorem qF (w : World) {s : An} (n_s : s.length ≤ 1000000) (hG : Gl w) : Ha Tryz.prog 47 [(vt s)] w (vt (Nr s)) := by
 have hF := Is.refl (Nr s)
 refine Sq func47 ntmps47 (h := ?_)
 refine Nk ?_
 refine Bq (args := []) (Ac call94) func94 ntmps94 ?_
 refine Z2 ?_
 refine Ak Ag z80 (k := fun r1 hr1 => ?_)
 refine Od ?_
 refine Af (jP (cs := [_, _, _, _, _, _, _, _]) zeroValue166 U9) (k := ?_)
 refine AJ1 ?_
 refine kY ?_
 refine Bd results94 (Bw.agg isAgg166 sizeOf166 rfl me rfl Bw.nil) ?_
 refine Af (Cx (cs := [_, _, _, _, _, _, _, _]) zeroValue169 AZ5) (k := ?_)
 refine Ak Ag (Lo (l := [_, _, _, _, _, _, _, _])) (k := fun r2 hr2 => ?_)
 refine Ak Ag (Cj (l := [_]) zeroValue162) (k := fun r3 hr3 => ?_)
 refine Ep (Bn (l' := [_]) sizeOf162) (k := ?_)
 refine Jr ?_
 refine Z2 ?_
 refine Bq (args := []) (Ac call94) func94 ntmps94 ?_
 refine Z2 ?_
 refine Ak Ag z80 (k := fun r4 hr4 => ?_)
 refine Od ?_
 refine Af (jP (cs := [_, _, _, _, _, _, _, _]) zeroValue166 U9) (k := ?_)
 refine AJ1 ?_
 refine kY ?_
 refine Bd results94 (Bw.agg isAgg166 sizeOf166 rfl me rfl Bw.nil) ?_
 refine Ak Ag z80 (k := fun r5 hr5 => ?_)
 refine AJ1 ?_
 refine Jr ?_
 refine Eh mixed 6 [(true, 0), (true, 1), (true, 2), (true, 3), (true, 4), (true, 5)] z2 ?_
 refine Be (Bm isAgg162) (k := ?_)
 refine Be Qf (k := ?_)
 refine Be (Al bU) (k := ?_)
 refine Be (Ch isAgg166 sizeOf166) (k := ?_)
 refine Be (Ch isAgg166 sizeOf166) (k := ?_)
 refine Be (aV (u := (Value.agg [(Value.int .u32 1779033703), (Value.int .u32 3144134277), (Value.int .u32 1013904242), (Value.int .u32 2773480762), (Value.int .u32 1359893119), (Value.int .u32 2600822924), (Value.int .u32 528734635), (Value.int .u32 1541459225)].toArray)) (v := (Value.agg [(Value.int .u32 1779033703), (Value.int .u32 3144134277), (Value.int .u32 1013904242), (Value.int .u32 2773480762), (Value.int .u32 1359893119), (Value.int .u32 2600822924), (Value.int .u32 528734635), (Value.int .u32 1541459225)].toArray)) (b := true) (fun w => by kernel_rfl)) (k := ?_)
 refine oR ?_
 refine Tv ?_
 refine Cy (Ac call96) (fun w1 hw1 => AM9 w1 (s := s) (n_s := Ng)) (k := ?_)
 refine Bq (args := [_]) (Ac call95) func95 ntmps95 ?_
 refine Z2 ?_
 refine Ak Ag z31 (k := fun r6 hr6 => ?_)
 refine aE ?_
 refine Bd results95 z0 ?_
 refine Nj ?_
 refine Fx Ag rfl call149 func149 ntmps149 (fun l7 rD7 rr7 hl7 => ?_)
 refine M5 ?_
 refine Gr ?_
 refine sW (σ1 := Nat) (σ2 := Int) (σ3 := Int) (σ4 := Int) (σ5 := Int) (σ6 := Int) (σ7 := Int) (σ8 := Int) (σ9 := Int) (σ10 := An) (fun n_10 x_1 x_2 x_3 x_4 x_5 x_6 x_7 x_8 x_9 => ((l7, Cr rr7 .ready none) :: ((rD7, Obj.deferred (some [])) :: ((r6, oc [(vt x_9)] 9) :: ((r5, oc [(Value.int .u32 1779033703), (Value.int .u32 3144134277), (Value.int .u32 1013904242), (Value.int .u32 2773480762), (Value.int .u32 1359893119), (Value.int .u32 2600822924), (Value.int .u32 528734635), (Value.int .u32 1541459225)] 166) :: ((r4, oc [(Value.int .u32 1779033703), (Value.int .u32 3144134277), (Value.int .u32 1013904242), (Value.int .u32 2773480762), (Value.int .u32 1359893119), (Value.int .u32 2600822924), (Value.int .u32 528734635), (Value.int .u32 1541459225)] 166) :: ((r3, oc [(Value.pointer (some ⟨r2, 0, none⟩))] 162) :: ((r2, oc [(Value.int .u32 x_1), (Value.int .u32 x_2), (Value.int .u32 x_3), (Value.int .u32 x_4), (Value.int .u32 x_5), (Value.int .u32 x_6), (Value.int .u32 x_7), (Value.int .u32 x_8)] 169) :: ((r1, oc [(Value.int .u32 1779033703), (Value.int .u32 3144134277), (Value.int .u32 1013904242), (Value.int .u32 2773480762), (Value.int .u32 1359893119), (Value.int .u32 2600822924), (Value.int .u32 528734635), (Value.int .u32 1541459225)] 166) :: []))))))))) (fun n_10 x_1 x_2 x_3 x_4 x_5 x_6 x_7 x_8 x_9 => [(0, (Value.func (.yield l7) [].toArray [].toArray)), (1, (Value.pointer (some ⟨r6, 0, none⟩)))]) (fun n_10 x_1 x_2 x_3 x_4 x_5 x_6 x_7 x_8 x_9 => x_9.length < n_10 ∧ Is (gY s ((tS s).length + 1) 1779033703 3144134277 1013904242 2773480762 1359893119 2600822924 528734635 1541459225 (tS s)) (gY s n_10 x_1 x_2 x_3 x_4 x_5 x_6 x_7 x_8 x_9)) (fun n_10 x_1 x_2 x_3 x_4 x_5 x_6 x_7 x_8 x_9 => n_10) ((tS s).length + 1) 1779033703 3144134277 1013904242 2773480762 1359893119 2600822924 528734635 1541459225 (tS s) ?_ se (List.Perm.refl _) ?_
 ·exact ⟨Nat.lt_succ_self _, Is.refl _⟩
 ·rintro (_ | n_10) x_1 x_2 x_3 x_4 x_5 x_6 x_7 x_8 x_9 ⟨hm12, hF11⟩
  ·omega
  refine Eu ?_
  refine Z2 ?_
  refine rS ?_
  refine BE9 ?_
  refine Bi rfl (fun hq1 => ?_) (fun hq1 => ?_)
  rotate_left
  ·refine Cu ?_
   refine Ko ?_
   refine Gh (.inr rfl) results149 q0 ?_
   refine aH ?_
   refine Ik ?_
   refine Z2 ?_
   refine Af (Bm isAgg162) (k := ?_)
   refine Si ?_
   refine Af (Al bU) (k := ?_)
   refine Af (Ch isAgg166 sizeOf166) (k := ?_)
   refine lO ?_
   refine Af (Np (m := 0) runUnderlying166 sizeOf164 isAgg164) (k := ?_)
   refine Z1 ?_
   refine Sd ?_
   refine Uw ?_
   refine Uw ?_
   refine rT ?_
   refine Ak Ag z30 (k := fun r10 hr10 => ?_)
   refine Bb ([(IntKind.u8.wrap (Ae .u32 x_1 24)), (IntKind.u8.wrap (Ae .u32 x_1 16)), (IntKind.u8.wrap (Ae .u32 x_1 8)), (IntKind.u8.wrap x_1)] : List Int) (List.nil_append _) Rw underlying174 Bz Bt.nil (List.Perm.refl _) (Cl.lit (xs := ([(IntKind.u8.wrap (Ae .u32 x_1 24)), (IntKind.u8.wrap (Ae .u32 x_1 16)), (IntKind.u8.wrap (Ae .u32 x_1 8)), (IntKind.u8.wrap x_1)] : List Int)) Bz) ⟨by first | omega | (simp; done) | (simp; omega), by first | omega | (simp; done) | (simp; omega)⟩ (n := 0) (m := 4) (k := fun ax1 cx1 Bx1 hox1 => ?_)
   refine Mj ?_
   refine vF ?_
   refine Af (Np (m := 1) runUnderlying166 sizeOf164 isAgg164) (k := ?_)
   refine Z1 ?_
   refine Sd ?_
   refine Uw ?_
   refine Uw ?_
   refine rT ?_
   refine Ak Ag z30 (k := fun r11 hr11 => ?_)
   refine Bb (([(IntKind.u8.wrap (Ae .u32 x_1 24)), (IntKind.u8.wrap (Ae .u32 x_1 16)), (IntKind.u8.wrap (Ae .u32 x_1 8)), (IntKind.u8.wrap x_1)] : List Int) ++ ([(IntKind.u8.wrap (Ae .u32 x_2 24)), (IntKind.u8.wrap (Ae .u32 x_2 16)), (IntKind.u8.wrap (Ae .u32 x_2 8)), (IntKind.u8.wrap x_2)] : List Int)) rfl Rw underlying174 Bz hox1 (qb q0) (Cl.lit (xs := ([(IntKind.u8.wrap (Ae .u32 x_2 24)), (IntKind.u8.wrap (Ae .u32 x_2 16)), (IntKind.u8.wrap (Ae .u32 x_2 8)), (IntKind.u8.wrap x_2)] : List Int)) Bz) ⟨by first | omega | (simp; done) | (simp; omega), by first | omega | (simp; done) | (simp; omega)⟩ (n := ([(IntKind.u8.wrap (Ae .u32 x_1 24)), (IntKind.u8.wrap (Ae .u32 x_1 16)), (IntKind.u8.wrap (Ae .u32 x_1 8)), (IntKind.u8.wrap x_1)] : List Int).length) (m := 4) (k := fun ax2 cx2 Bx2 hox2 => ?_)
   have hal2 : (([(IntKind.u8.wrap (Ae .u32 x_1 24)), (IntKind.u8.wrap (Ae .u32 x_1 16)), (IntKind.u8.wrap (Ae .u32 x_1 8)), (IntKind.u8.wrap x_1)] : List Int) ++ ([(IntKind.u8.wrap (Ae .u32 x_2 24)), (IntKind.u8.wrap (Ae .u32 x_2 16)), (IntKind.u8.wrap (Ae .u32 x_2 8)), (IntKind.u8.wrap x_2)] : List Int)).length = ([(IntKind.u8.wrap (Ae .u32 x_1 24)), (IntKind.u8.wrap (Ae .u32 x_1 16)), (IntKind.u8.wrap (Ae .u32 x_1 8)), (IntKind.u8.wrap x_1)] : List Int).length + 4 := by first | rfl | exact List.length_append | simp
   refine Mj ?_
   refine vF ?_
   refine Af (Np (m := 2) runUnderlying166 sizeOf164 isAgg164) (k := ?_)
   refine Z1 ?_
   refine Sd ?_
   refine Uw ?_
   refine Uw ?_
   refine rT ?_
   refine Ak Ag z30 (k := fun r12 hr12 => ?_)
   refine Bb ((([(IntKind.u8.wrap (Ae .u32 x_1 24)), (IntKind.u8.wrap (Ae .u32 x_1 16)), (IntKind.u8.wrap (Ae .u32 x_1 8)), (IntKind.u8.wrap x_1)] : List Int) ++ ([(IntKind.u8.wrap (Ae .u32 x_2 24)), (IntKind.u8.wrap (Ae .u32 x_2 16)), (IntKind.u8.wrap (Ae .u32 x_2 8)), (IntKind.u8.wrap x_2)] : List Int)) ++ ([(IntKind.u8.wrap (Ae .u32 x_3 24)), (IntKind.u8.wrap (Ae .u32 x_3 16)), (IntKind.u8.wrap (Ae .u32 x_3 8)), (IntKind.u8.wrap x_3)] : List Int)) rfl Rw underlying174 Bz hox2 (qb q0) (Cl.lit (xs := ([(IntKind.u8.wrap (Ae .u32 x_3 24)), (IntKind.u8.wrap (Ae .u32 x_3 16)), (IntKind.u8.wrap (Ae .u32 x_3 8)), (IntKind.u8.wrap x_3)] : List Int)) Bz) ⟨by first | omega | (simp; done) | (simp; omega), by first | omega | (simp; done) | (simp; omega)⟩ (n := (([(IntKind.u8.wrap (Ae .u32 x_1 24)), (IntKind.u8.wrap (Ae .u32 x_1 16)), (IntKind.u8.wrap (Ae .u32 x_1 8)), (IntKind.u8.wrap x_1)] : List Int) ++ ([(IntKind.u8.wrap (Ae .u32 x_2 24)), (IntKind.u8.wrap (Ae .u32 x_2 16)), (IntKind.u8.wrap (Ae .u32 x_2 8)), (IntKind.u8.wrap x_2)] : List Int)).length) (m := 4) (k := fun ax3 cx3 Bx3 hox3 => ?_)
   have hal3 : ((([(IntKind.u8.wrap (Ae .u32 x_1 24)), (IntKind.u8.wrap (Ae .u32 x_1 16)), (IntKind.u8.wrap (Ae .u32 x_1 8)), (IntKind.u8.wrap x_1)] : List Int) ++ ([(IntKind.u8.wrap (Ae .u32 x_2 24)), (IntKind.u8.wrap (Ae .u32 x_2 16)), (IntKind.u8.wrap (Ae .u32 x_2 8)), (IntKind.u8.wrap x_2)] : List Int)) ++ ([(IntKind.u8.wrap (Ae .u32 x_3 24)), (IntKind.u8.wrap (Ae .u32 x_3 16)), (IntKind.u8.wrap (Ae .u32 x_3 8)), (IntKind.u8.wrap x_3)] : List Int)).length = (([(IntKind.u8.wrap (Ae .u32 x_1 24)), (IntKind.u8.wrap (Ae .u32 x_1 16)), (IntKind.u8.wrap (Ae .u32 x_1 8)), (IntKind.u8.wrap x_1)] : List Int) ++ ([(IntKind.u8.wrap (Ae .u32 x_2 24)), (IntKind.u8.wrap (Ae .u32 x_2 16)), (IntKind.u8.wrap (Ae .u32 x_2 8)), (IntKind.u8.wrap x_2)] : List Int)).length + 4 := by first | rfl | exact List.length_append | simp
   refine Mj ?_
   refine vF ?_
   refine Af (Np (m := 3) runUnderlying166 sizeOf164 isAgg164) (k := ?_)
   refine Z1 ?_
   refine Sd ?_
   refine Uw ?_
   refine Uw ?_
   refine rT ?_
   refine Ak Ag z30 (k := fun r13 hr13 => ?_)
   refine Bb (((([(IntKind.u8.wrap (Ae .u32 x_1 24)), (IntKind.u8.wrap (Ae .u32 x_1 16)), (IntKind.u8.wrap (Ae .u32 x_1 8)), (IntKind.u8.wrap x_1)] : List Int) ++ ([(IntKind.u8.wrap (Ae .u32 x_2 24)), (IntKind.u8.wrap (Ae .u32 x_2 16)), (IntKind.u8.wrap (Ae .u32 x_2 8)), (IntKind.u8.wrap x_2)] : List Int)) ++ ([(IntKind.u8.wrap (Ae .u32 x_3 24)), (IntKind.u8.wrap (Ae .u32 x_3 16)), (IntKind.u8.wrap (Ae .u32 x_3 8)), (IntKind.u8.wrap x_3)] : List Int)) ++ ([(IntKind.u8.wrap (Ae .u32 x_4 24)), (IntKind.u8.wrap (Ae .u32 x_4 16)), (IntKind.u8.wrap (Ae .u32 x_4 8)), (IntKind.u8.wrap x_4)] : List Int)) rfl Rw underlying174 Bz hox3 (qb q0) (Cl.lit (xs := ([(IntKind.u8.wrap (Ae .u32 x_4 24)), (IntKind.u8.wrap (Ae .u32 x_4 16)), (IntKind.u8.wrap (Ae .u32 x_4 8)), (IntKind.u8.wrap x_4)] : List Int)) Bz) ⟨by first | omega | (simp; done) | (simp; omega), by first | omega | (simp; done) | (simp; omega)⟩ (n := ((([(IntKind.u8.wrap (Ae .u32 x_1 24)), (IntKind.u8.wrap (Ae .u32 x_1 16)), (IntKind.u8.wrap (Ae .u32 x_1 8)), (IntKind.u8.wrap x_1)] : List Int) ++ ([(IntKind.u8.wrap (Ae .u32 x_2 24)), (IntKind.u8.wrap (Ae .u32 x_2 16)), (IntKind.u8.wrap (Ae .u32 x_2 8)), (IntKind.u8.wrap x_2)] : List Int)) ++ ([(IntKind.u8.wrap (Ae .u32 x_3 24)), (IntKind.u8.wrap (Ae .u32 x_3 16)), (IntKind.u8.wrap (Ae .u32 x_3 8)), (IntKind.u8.wrap x_3)] : List Int)).length) (m := 4) (k := fun ax4 cx4 Bx4 hox4 => ?_)
   have hal4 : (((([(IntKind.u8.wrap (Ae .u32 x_1 24)), (IntKind.u8.wrap (Ae .u32 x_1 16)), (IntKind.u8.wrap (Ae .u32 x_1 8)), (IntKind.u8.wrap x_1)] : List Int) ++ ([(IntKind.u8.wrap (Ae .u32 x_2 24)), (IntKind.u8.wrap (Ae .u32 x_2 16)), (IntKind.u8.wrap (Ae .u32 x_2 8)), (IntKind.u8.wrap x_2)] : List Int)) ++ ([(IntKind.u8.wrap (Ae .u32 x_3 24)), (IntKind.u8.wrap (Ae .u32 x_3 16)), (IntKind.u8.wrap (Ae .u32 x_3 8)), (IntKind.u8.wrap x_3)] : List Int)) ++ ([(IntKind.u8.wrap (Ae .u32 x_4 24)), (IntKind.u8.wrap (Ae .u32 x_4 16)), (IntKind.u8.wrap (Ae .u32 x_4 8)), (IntKind.u8.wrap x_4)] : List Int)).length = ((([(IntKind.u8.wrap (Ae .u32 x_1 24)), (IntKind.u8.wrap (Ae .u32 x_1 16)), (IntKind.u8.wrap (Ae .u32 x_1 8)), (IntKind.u8.wrap x_1)] : List Int) ++ ([(IntKind.u8.wrap (Ae .u32 x_2 24)), (IntKind.u8.wrap (Ae .u32 x_2 16)), (IntKind.u8.wrap (Ae .u32 x_2 8)), (IntKind.u8.wrap x_2)] : List Int)) ++ ([(IntKind.u8.wrap (Ae .u32 x_3 24)), (IntKind.u8.wrap (Ae .u32 x_3 16)), (IntKind.u8.wrap (Ae .u32 x_3 8)), (IntKind.u8.wrap x_3)] : List Int)).length + 4 := by first | rfl | exact List.length_append | simp
   refine Mj ?_
   refine vF ?_
   refine Af (Np (m := 4) runUnderlying166 sizeOf164 isAgg164) (k := ?_)
   refine Z1 ?_
   refine Sd ?_
   refine Uw ?_
   refine Uw ?_
   refine rT ?_
   refine Ak Ag z30 (k := fun r14 hr14 => ?_)
   refine Bb ((((([(IntKind.u8.wrap (Ae .u32 x_1 24)), (IntKind.u8.wrap (Ae .u32 x_1 16)), (IntKind.u8.wrap (Ae .u32 x_1 8)), (IntKind.u8.wrap x_1)] : List Int) ++ ([(IntKind.u8.wrap (Ae .u32 x_2 24)), (IntKind.u8.wrap (Ae .u32 x_2 16)), (IntKind.u8.wrap (Ae .u32 x_2 8)), (IntKind.u8.wrap x_2)] : List Int)) ++ ([(IntKind.u8.wrap (Ae .u32 x_3 24)), (IntKind.u8.wrap (Ae .u32 x_3 16)), (IntKind.u8.wrap (Ae .u32 x_3 8)), (IntKind.u8.wrap x_3)] : List Int)) ++ ([(IntKind.u8.wrap (Ae .u32 x_4 24)), (IntKind.u8.wrap (Ae .u32 x_4 16)), (IntKind.u8.wrap (Ae .u32 x_4 8)), (IntKind.u8.wrap x_4)] : List Int)) ++ ([(IntKind.u8.wrap (Ae .u32 x_5 24)), (IntKind.u8.wrap (Ae .u32 x_5 16)), (IntKind.u8.wrap (Ae .u32 x_5 8)), (IntKind.u8.wrap x_5)] : List Int)) rfl Rw underlying174 Bz hox4 (qb q0) (Cl.lit (xs := ([(IntKind.u8.wrap (Ae .u32 x_5 24)), (IntKind.u8.wrap (Ae .u32 x_5 16)), (IntKind.u8.wrap (Ae .u32 x_5 8)), (IntKind.u8.wrap x_5)] : List Int)) Bz) ⟨by first | omega | (simp; done) | (simp; omega), by first | omega | (simp; done) | (simp; omega)⟩ (n := (((([(IntKind.u8.wrap (Ae .u32 x_1 24)), (IntKind.u8.wrap (Ae .u32 x_1 16)), (IntKind.u8.wrap (Ae .u32 x_1 8)), (IntKind.u8.wrap x_1)] : List Int) ++ ([(IntKind.u8.wrap (Ae .u32 x_2 24)), (IntKind.u8.wrap (Ae .u32 x_2 16)), (IntKind.u8.wrap (Ae .u32 x_2 8)), (IntKind.u8.wrap x_2)] : List Int)) ++ ([(IntKind.u8.wrap (Ae .u32 x_3 24)), (IntKind.u8.wrap (Ae .u32 x_3 16)), (IntKind.u8.wrap (Ae .u32 x_3 8)), (IntKind.u8.wrap x_3)] : List Int)) ++ ([(IntKind.u8.wrap (Ae .u32 x_4 24)), (IntKind.u8.wrap (Ae .u32 x_4 16)), (IntKind.u8.wrap (Ae .u32 x_4 8)), (IntKind.u8.wrap x_4)] : List Int)).length) (m := 4) (k := fun ax5 cx5 Bx5 hox5 => ?_)
   have hal5 : ((((([(IntKind.u8.wrap (Ae .u32 x_1 24)), (IntKind.u8.wrap (Ae .u32 x_1 16)), (IntKind.u8.wrap (Ae .u32 x_1 8)), (IntKind.u8.wrap x_1)] : List Int) ++ ([(IntKind.u8.wrap (Ae .u32 x_2 24)), (IntKind.u8.wrap (Ae .u32 x_2 16)), (IntKind.u8.wrap (Ae .u32 x_2 8)), (IntKind.u8.wrap x_2)] : List Int)) ++ ([(IntKind.u8.wrap (Ae .u32 x_3 24)), (IntKind.u8.wrap (Ae .u32 x_3 16)), (IntKind.u8.wrap (Ae .u32 x_3 8)), (IntKind.u8.wrap x_3)] : List Int)) ++ ([(IntKind.u8.wrap (Ae .u32 x_4 24)), (IntKind.u8.wrap (Ae .u32 x_4 16)), (IntKind.u8.wrap (Ae .u32 x_4 8)), (IntKind.u8.wrap x_4)] : List Int)) ++ ([(IntKind.u8.wrap (Ae .u32 x_5 24)), (IntKind.u8.wrap (Ae .u32 x_5 16)), (IntKind.u8.wrap (Ae .u32 x_5 8)), (IntKind.u8.wrap x_5)] : List Int)).length = (((([(IntKind.u8.wrap (Ae .u32 x_1 24)), (IntKind.u8.wrap (Ae .u32 x_1 16)), (IntKind.u8.wrap (Ae .u32 x_1 8)), (IntKind.u8.wrap x_1)] : List Int) ++ ([(IntKind.u8.wrap (Ae .u32 x_2 24)), (IntKind.u8.wrap (Ae .u32 x_2 16)), (IntKind.u8.wrap (Ae .u32 x_2 8)), (IntKind.u8.wrap x_2)] : List Int)) ++ ([(IntKind.u8.wrap (Ae .u32 x_3 24)), (IntKind.u8.wrap (Ae .u32 x_3 16)), (IntKind.u8.wrap (Ae .u32 x_3 8)), (IntKind.u8.wrap x_3)] : List Int)) ++ ([(IntKind.u8.wrap (Ae .u32 x_4 24)), (IntKind.u8.wrap (Ae .u32 x_4 16)), (IntKind.u8.wrap (Ae .u32 x_4 8)), (IntKind.u8.wrap x_4)] : List Int)).length + 4 := by first | rfl | exact List.length_append | simp
   refine Mj ?_
   refine vF ?_
   refine Af (Np (m := 5) runUnderlying166 sizeOf164 isAgg164) (k := ?_)
   refine Z1 ?_
   refine Sd ?_
   refine Uw ?_
   refine Uw ?_
   refine rT ?_
   refine Ak Ag z30 (k := fun r15 hr15 => ?_)
   refine Bb (((((([(IntKind.u8.wrap (Ae .u32 x_1 24)), (IntKind.u8.wrap (Ae .u32 x_1 16)), (IntKind.u8.wrap (Ae .u32 x_1 8)), (IntKind.u8.wrap x_1)] : List Int) ++ ([(IntKind.u8.wrap (Ae .u32 x_2 24)), (IntKind.u8.wrap (Ae .u32 x_2 16)), (IntKind.u8.wrap (Ae .u32 x_2 8)), (IntKind.u8.wrap x_2)] : List Int)) ++ ([(IntKind.u8.wrap (Ae .u32 x_3 24)), (IntKind.u8.wrap (Ae .u32 x_3 16)), (IntKind.u8.wrap (Ae .u32 x_3 8)), (IntKind.u8.wrap x_3)] : List Int)) ++ ([(IntKind.u8.wrap (Ae .u32 x_4 24)), (IntKind.u8.wrap (Ae .u32 x_4 16)), (IntKind.u8.wrap (Ae .u32 x_4 8)), (IntKind.u8.wrap x_4)] : List Int)) ++ ([(IntKind.u8.wrap (Ae .u32 x_5 24)), (IntKind.u8.wrap (Ae .u32 x_5 16)), (IntKind.u8.wrap (Ae .u32 x_5 8)), (IntKind.u8.wrap x_5)] : List Int)) ++ ([(IntKind.u8.wrap (Ae .u32 x_6 24)), (IntKind.u8.wrap (Ae .u32 x_6 16)), (IntKind.u8.wrap (Ae .u32 x_6 8)), (IntKind.u8.wrap x_6)] : List Int)) rfl Rw underlying174 Bz hox5 (qb q0) (Cl.lit (xs := ([(IntKind.u8.wrap (Ae .u32 x_6 24)), (IntKind.u8.wrap (Ae .u32 x_6 16)), (IntKind.u8.wrap (Ae .u32 x_6 8)), (IntKind.u8.wrap x_6)] : List Int)) Bz) ⟨by first | omega | (simp; done) | (simp; omega), by first | omega | (simp; done) | (simp; omega)⟩ (n := ((((([(IntKind.u8.wrap (Ae .u32 x_1 24)), (IntKind.u8.wrap (Ae .u32 x_1 16)), (IntKind.u8.wrap (Ae .u32 x_1 8)), (IntKind.u8.wrap x_1)] : List Int) ++ ([(IntKind.u8.wrap (Ae .u32 x_2 24)), (IntKind.u8.wrap (Ae .u32 x_2 16)), (IntKind.u8.wrap (Ae .u32 x_2 8)), (IntKind.u8.wrap x_2)] : List Int)) ++ ([(IntKind.u8.wrap (Ae .u32 x_3 24)), (IntKind.u8.wrap (Ae .u32 x_3 16)), (IntKind.u8.wrap (Ae .u32 x_3 8)), (IntKind.u8.wrap x_3)] : List Int)) ++ ([(IntKind.u8.wrap (Ae .u32 x_4 24)), (IntKind.u8.wrap (Ae .u32 x_4 16)), (IntKind.u8.wrap (Ae .u32 x_4 8)), (IntKind.u8.wrap x_4)] : List Int)) ++ ([(IntKind.u8.wrap (Ae .u32 x_5 24)), (IntKind.u8.wrap (Ae .u32 x_5 16)), (IntKind.u8.wrap (Ae .u32 x_5 8)), (IntKind.u8.wrap x_5)] : List Int)).length) (m := 4) (k := fun ax6 cx6 Bx6 hox6 => ?_)
   have hal6 : (((((([(IntKind.u8.wrap (Ae .u32 x_1 24)), (IntKind.u8.wrap (Ae .u32 x_1 16)), (IntKind.u8.wrap (Ae .u32 x_1 8)), (IntKind.u8.wrap x_1)] : List Int) ++ ([(IntKind.u8.wrap (Ae .u32 x_2 24)), (IntKind.u8.wrap (Ae .u32 x_2 16)), (IntKind.u8.wrap (Ae .u32 x_2 8)), (IntKind.u8.wrap x_2)] : List Int)) ++ ([(IntKind.u8.wrap (Ae .u32 x_3 24)), (IntKind.u8.wrap (Ae .u32 x_3 16)), (IntKind.u8.wrap (Ae .u32 x_3 8)), (IntKind.u8.wrap x_3)] : List Int)) ++ ([(IntKind.u8.wrap (Ae .u32 x_4 24)), (IntKind.u8.wrap (Ae .u32 x_4 16)), (IntKind.u8.wrap (Ae .u32 x_4 8)), (IntKind.u8.wrap x_4)] : List Int)) ++ ([(IntKind.u8.wrap (Ae .u32 x_5 24)), (IntKind.u8.wrap (Ae .u32 x_5 16)), (IntKind.u8.wrap (Ae .u32 x_5 8)), (IntKind.u8.wrap x_5)] : List Int)) ++ ([(IntKind.u8.wrap (Ae .u32 x_6 24)), (IntKind.u8.wrap (Ae .u32 x_6 16)), (IntKind.u8.wrap (Ae .u32 x_6 8)), (IntKind.u8.wrap x_6)] : List Int)).length = ((((([(IntKind.u8.wrap (Ae .u32 x_1 24)), (IntKind.u8.wrap (Ae .u32 x_1 16)), (IntKind.u8.wrap (Ae .u32 x_1 8)), (IntKind.u8.wrap x_1)] : List Int) ++ ([(IntKind.u8.wrap (Ae .u32 x_2 24)), (IntKind.u8.wrap (Ae .u32 x_2 16)), (IntKind.u8.wrap (Ae .u32 x_2 8)), (IntKind.u8.wrap x_2)] : List Int)) ++ ([(IntKind.u8.wrap (Ae .u32 x_3 24)), (IntKind.u8.wrap (Ae .u32 x_3 16)), (IntKind.u8.wrap (Ae .u32 x_3 8)), (IntKind.u8.wrap x_3)] : List Int)) ++ ([(IntKind.u8.wrap (Ae .u32 x_4 24)), (IntKind.u8.wrap (Ae .u32 x_4 16)), (IntKind.u8.wrap (Ae .u32 x_4 8)), (IntKind.u8.wrap x_4)] : List Int)) ++ ([(IntKind.u8.wrap (Ae .u32 x_5 24)), (IntKind.u8.wrap (Ae .u32 x_5 16)), (IntKind.u8.wrap (Ae .u32 x_5 8)), (IntKind.u8.wrap x_5)] : List Int)).length + 4 := by first | rfl | exact List.length_append | simp
   refine Mj ?_
   refine vF ?_
   refine Af (Np (m := 6) runUnderlying166 sizeOf164 isAgg164) (k := ?_)
   refine Z1 ?_
   refine Sd ?_
   refine Uw ?_
   refine Uw ?_
   refine rT ?_
   refine Ak Ag z30 (k := fun r16 hr16 => ?_)
   refine Bb ((((((([(IntKind.u8.wrap (Ae .u32 x_1 24)), (IntKind.u8.wrap (Ae .u32 x_1 16)), (IntKind.u8.wrap (Ae .u32 x_1 8)), (IntKind.u8.wrap x_1)] : List Int) ++ ([(IntKind.u8.wrap (Ae .u32 x_2 24)), (IntKind.u8.wrap (Ae .u32 x_2 16)), (IntKind.u8.wrap (Ae .u32 x_2 8)), (IntKind.u8.wrap x_2)] : List Int)) ++ ([(IntKind.u8.wrap (Ae .u32 x_3 24)), (IntKind.u8.wrap (Ae .u32 x_3 16)), (IntKind.u8.wrap (Ae .u32 x_3 8)), (IntKind.u8.wrap x_3)] : List Int)) ++ ([(IntKind.u8.wrap (Ae .u32 x_4 24)), (IntKind.u8.wrap (Ae .u32 x_4 16)), (IntKind.u8.wrap (Ae .u32 x_4 8)), (IntKind.u8.wrap x_4)] : List Int)) ++ ([(IntKind.u8.wrap (Ae .u32 x_5 24)), (IntKind.u8.wrap (Ae .u32 x_5 16)), (IntKind.u8.wrap (Ae .u32 x_5 8)), (IntKind.u8.wrap x_5)] : List Int)) ++ ([(IntKind.u8.wrap (Ae .u32 x_6 24)), (IntKind.u8.wrap (Ae .u32 x_6 16)), (IntKind.u8.wrap (Ae .u32 x_6 8)), (IntKind.u8.wrap x_6)] : List Int)) ++ ([(IntKind.u8.wrap (Ae .u32 x_7 24)), (IntKind.u8.wrap (Ae .u32 x_7 16)), (IntKind.u8.wrap (Ae .u32 x_7 8)), (IntKind.u8.wrap x_7)] : List Int)) rfl Rw underlying174 Bz hox6 (qb q0) (Cl.lit (xs := ([(IntKind.u8.wrap (Ae .u32 x_7 24)), (IntKind.u8.wrap (Ae .u32 x_7 16)), (IntKind.u8.wrap (Ae .u32 x_7 8)), (IntKind.u8.wrap x_7)] : List Int)) Bz) ⟨by first | omega | (simp; done) | (simp; omega), by first | omega | (simp; done) | (simp; omega)⟩ (n := (((((([(IntKind.u8.wrap (Ae .u32 x_1 24)), (IntKind.u8.wrap (Ae .u32 x_1 16)), (IntKind.u8.wrap (Ae .u32 x_1 8)), (IntKind.u8.wrap x_1)] : List Int) ++ ([(IntKind.u8.wrap (Ae .u32 x_2 24)), (IntKind.u8.wrap (Ae .u32 x_2 16)), (IntKind.u8.wrap (Ae .u32 x_2 8)), (IntKind.u8.wrap x_2)] : List Int)) ++ ([(IntKind.u8.wrap (Ae .u32 x_3 24)), (IntKind.u8.wrap (Ae .u32 x_3 16)), (IntKind.u8.wrap (Ae .u32 x_3 8)), (IntKind.u8.wrap x_3)] : List Int)) ++ ([(IntKind.u8.wrap (Ae .u32 x_4 24)), (IntKind.u8.wrap (Ae .u32 x_4 16)), (IntKind.u8.wrap (Ae .u32 x_4 8)), (IntKind.u8.wrap x_4)] : List Int)) ++ ([(IntKind.u8.wrap (Ae .u32 x_5 24)), (IntKind.u8.wrap (Ae .u32 x_5 16)), (IntKind.u8.wrap (Ae .u32 x_5 8)), (IntKind.u8.wrap x_5)] : List Int)) ++ ([(IntKind.u8.wrap (Ae .u32 x_6 24)), (IntKind.u8.wrap (Ae .u32 x_6 16)), (IntKind.u8.wrap (Ae .u32 x_6 8)), (IntKind.u8.wrap x_6)] : List Int)).length) (m := 4) (k := fun ax7 cx7 Bx7 hox7 => ?_)
   have hal7 : ((((((([(IntKind.u8.wrap (Ae .u32 x_1 24)), (IntKind.u8.wrap (Ae .u32 x_1 16)), (IntKind.u8.wrap (Ae .u32 x_1 8)), (IntKind.u8.wrap x_1)] : List Int) ++ ([(IntKind.u8.wrap (Ae .u32 x_2 24)), (IntKind.u8.wrap (Ae .u32 x_2 16)), (IntKind.u8.wrap (Ae .u32 x_2 8)), (IntKind.u8.wrap x_2)] : List Int)) ++ ([(IntKind.u8.wrap (Ae .u32 x_3 24)), (IntKind.u8.wrap (Ae .u32 x_3 16)), (IntKind.u8.wrap (Ae .u32 x_3 8)), (IntKind.u8.wrap x_3)] : List Int)) ++ ([(IntKind.u8.wrap (Ae .u32 x_4 24)), (IntKind.u8.wrap (Ae .u32 x_4 16)), (IntKind.u8.wrap (Ae .u32 x_4 8)), (IntKind.u8.wrap x_4)] : List Int)) ++ ([(IntKind.u8.wrap (Ae .u32 x_5 24)), (IntKind.u8.wrap (Ae .u32 x_5 16)), (IntKind.u8.wrap (Ae .u32 x_5 8)), (IntKind.u8.wrap x_5)] : List Int)) ++ ([(IntKind.u8.wrap (Ae .u32 x_6 24)), (IntKind.u8.wrap (Ae .u32 x_6 16)), (IntKind.u8.wrap (Ae .u32 x_6 8)), (IntKind.u8.wrap x_6)] : List Int)) ++ ([(IntKind.u8.wrap (Ae .u32 x_7 24)), (IntKind.u8.wrap (Ae .u32 x_7 16)), (IntKind.u8.wrap (Ae .u32 x_7 8)), (IntKind.u8.wrap x_7)] : List Int)).length = (((((([(IntKind.u8.wrap (Ae .u32 x_1 24)), (IntKind.u8.wrap (Ae .u32 x_1 16)), (IntKind.u8.wrap (Ae .u32 x_1 8)), (IntKind.u8.wrap x_1)] : List Int) ++ ([(IntKind.u8.wrap (Ae .u32 x_2 24)), (IntKind.u8.wrap (Ae .u32 x_2 16)), (IntKind.u8.wrap (Ae .u32 x_2 8)), (IntKind.u8.wrap x_2)] : List Int)) ++ ([(IntKind.u8.wrap (Ae .u32 x_3 24)), (IntKind.u8.wrap (Ae .u32 x_3 16)), (IntKind.u8.wrap (Ae .u32 x_3 8)), (IntKind.u8.wrap x_3)] : List Int)) ++ ([(IntKind.u8.wrap (Ae .u32 x_4 24)), (IntKind.u8.wrap (Ae .u32 x_4 16)), (IntKind.u8.wrap (Ae .u32 x_4 8)), (IntKind.u8.wrap x_4)] : List Int)) ++ ([(IntKind.u8.wrap (Ae .u32 x_5 24)), (IntKind.u8.wrap (Ae .u32 x_5 16)), (IntKind.u8.wrap (Ae .u32 x_5 8)), (IntKind.u8.wrap x_5)] : List Int)) ++ ([(IntKind.u8.wrap (Ae .u32 x_6 24)), (IntKind.u8.wrap (Ae .u32 x_6 16)), (IntKind.u8.wrap (Ae .u32 x_6 8)), (IntKind.u8.wrap x_6)] : List Int)).length + 4 := by first | rfl | exact List.length_append | simp
   refine Mj ?_
   refine vF ?_
   refine Af (Np (m := 7) runUnderlying166 sizeOf164 isAgg164) (k := ?_)
   refine Z1 ?_
   refine Sd ?_
   refine Uw ?_
   refine Uw ?_
   refine rT ?_
   refine Ak Ag z30 (k := fun r17 hr17 => ?_)
   refine Bb (((((((([(IntKind.u8.wrap (Ae .u32 x_1 24)), (IntKind.u8.wrap (Ae .u32 x_1 16)), (IntKind.u8.wrap (Ae .u32 x_1 8)), (IntKind.u8.wrap x_1)] : List Int) ++ ([(IntKind.u8.wrap (Ae .u32 x_2 24)), (IntKind.u8.wrap (Ae .u32 x_2 16)), (IntKind.u8.wrap (Ae .u32 x_2 8)), (IntKind.u8.wrap x_2)] : List Int)) ++ ([(IntKind.u8.wrap (Ae .u32 x_3 24)), (IntKind.u8.wrap (Ae .u32 x_3 16)), (IntKind.u8.wrap (Ae .u32 x_3 8)), (IntKind.u8.wrap x_3)] : List Int)) ++ ([(IntKind.u8.wrap (Ae .u32 x_4 24)), (IntKind.u8.wrap (Ae .u32 x_4 16)), (IntKind.u8.wrap (Ae .u32 x_4 8)), (IntKind.u8.wrap x_4)] : List Int)) ++ ([(IntKind.u8.wrap (Ae .u32 x_5 24)), (IntKind.u8.wrap (Ae .u32 x_5 16)), (IntKind.u8.wrap (Ae .u32 x_5 8)), (IntKind.u8.wrap x_5)] : List Int)) ++ ([(IntKind.u8.wrap (Ae .u32 x_6 24)), (IntKind.u8.wrap (Ae .u32 x_6 16)), (IntKind.u8.wrap (Ae .u32 x_6 8)), (IntKind.u8.wrap x_6)] : List Int)) ++ ([(IntKind.u8.wrap (Ae .u32 x_7 24)), (IntKind.u8.wrap (Ae .u32 x_7 16)), (IntKind.u8.wrap (Ae .u32 x_7 8)), (IntKind.u8.wrap x_7)] : List Int)) ++ ([(IntKind.u8.wrap (Ae .u32 x_8 24)), (IntKind.u8.wrap (Ae .u32 x_8 16)), (IntKind.u8.wrap (Ae .u32 x_8 8)), (IntKind.u8.wrap x_8)] : List Int)) rfl Rw underlying174 Bz hox7 (qb q0) (Cl.lit (xs := ([(IntKind.u8.wrap (Ae .u32 x_8 24)), (IntKind.u8.wrap (Ae .u32 x_8 16)), (IntKind.u8.wrap (Ae .u32 x_8 8)), (IntKind.u8.wrap x_8)] : List Int)) Bz) ⟨by first | omega | (simp; done) | (simp; omega), by first | omega | (simp; done) | (simp; omega)⟩ (n := ((((((([(IntKind.u8.wrap (Ae .u32 x_1 24)), (IntKind.u8.wrap (Ae .u32 x_1 16)), (IntKind.u8.wrap (Ae .u32 x_1 8)), (IntKind.u8.wrap x_1)] : List Int) ++ ([(IntKind.u8.wrap (Ae .u32 x_2 24)), (IntKind.u8.wrap (Ae .u32 x_2 16)), (IntKind.u8.wrap (Ae .u32 x_2 8)), (IntKind.u8.wrap x_2)] : List Int)) ++ ([(IntKind.u8.wrap (Ae .u32 x_3 24)), (IntKind.u8.wrap (Ae .u32 x_3 16)), (IntKind.u8.wrap (Ae .u32 x_3 8)), (IntKind.u8.wrap x_3)] : List Int)) ++ ([(IntKind.u8.wrap (Ae .u32 x_4 24)), (IntKind.u8.wrap (Ae .u32 x_4 16)), (IntKind.u8.wrap (Ae .u32 x_4 8)), (IntKind.u8.wrap x_4)] : List Int)) ++ ([(IntKind.u8.wrap (Ae .u32 x_5 24)), (IntKind.u8.wrap (Ae .u32 x_5 16)), (IntKind.u8.wrap (Ae .u32 x_5 8)), (IntKind.u8.wrap x_5)] : List Int)) ++ ([(IntKind.u8.wrap (Ae .u32 x_6 24)), (IntKind.u8.wrap (Ae .u32 x_6 16)), (IntKind.u8.wrap (Ae .u32 x_6 8)), (IntKind.u8.wrap x_6)] : List Int)) ++ ([(IntKind.u8.wrap (Ae .u32 x_7 24)), (IntKind.u8.wrap (Ae .u32 x_7 16)), (IntKind.u8.wrap (Ae .u32 x_7 8)), (IntKind.u8.wrap x_7)] : List Int)).length) (m := 4) (k := fun ax8 cx8 Bx8 hox8 => ?_)
   have hal8 : (((((((([(IntKind.u8.wrap (Ae .u32 x_1 24)), (IntKind.u8.wrap (Ae .u32 x_1 16)), (IntKind.u8.wrap (Ae .u32 x_1 8)), (IntKind.u8.wrap x_1)] : List Int) ++ ([(IntKind.u8.wrap (Ae .u32 x_2 24)), (IntKind.u8.wrap (Ae .u32 x_2 16)), (IntKind.u8.wrap (Ae .u32 x_2 8)), (IntKind.u8.wrap x_2)] : List Int)) ++ ([(IntKind.u8.wrap (Ae .u32 x_3 24)), (IntKind.u8.wrap (Ae .u32 x_3 16)), (IntKind.u8.wrap (Ae .u32 x_3 8)), (IntKind.u8.wrap x_3)] : List Int)) ++ ([(IntKind.u8.wrap (Ae .u32 x_4 24)), (IntKind.u8.wrap (Ae .u32 x_4 16)), (IntKind.u8.wrap (Ae .u32 x_4 8)), (IntKind.u8.wrap x_4)] : List Int)) ++ ([(IntKind.u8.wrap (Ae .u32 x_5 24)), (IntKind.u8.wrap (Ae .u32 x_5 16)), (IntKind.u8.wrap (Ae .u32 x_5 8)), (IntKind.u8.wrap x_5)] : List Int)) ++ ([(IntKind.u8.wrap (Ae .u32 x_6 24)), (IntKind.u8.wrap (Ae .u32 x_6 16)), (IntKind.u8.wrap (Ae .u32 x_6 8)), (IntKind.u8.wrap x_6)] : List Int)) ++ ([(IntKind.u8.wrap (Ae .u32 x_7 24)), (IntKind.u8.wrap (Ae .u32 x_7 16)), (IntKind.u8.wrap (Ae .u32 x_7 8)), (IntKind.u8.wrap x_7)] : List Int)) ++ ([(IntKind.u8.wrap (Ae .u32 x_8 24)), (IntKind.u8.wrap (Ae .u32 x_8 16)), (IntKind.u8.wrap (Ae .u32 x_8 8)), (IntKind.u8.wrap x_8)] : List Int)).length = ((((((([(IntKind.u8.wrap (Ae .u32 x_1 24)), (IntKind.u8.wrap (Ae .u32 x_1 16)), (IntKind.u8.wrap (Ae .u32 x_1 8)), (IntKind.u8.wrap x_1)] : List Int) ++ ([(IntKind.u8.wrap (Ae .u32 x_2 24)), (IntKind.u8.wrap (Ae .u32 x_2 16)), (IntKind.u8.wrap (Ae .u32 x_2 8)), (IntKind.u8.wrap x_2)] : List Int)) ++ ([(IntKind.u8.wrap (Ae .u32 x_3 24)), (IntKind.u8.wrap (Ae .u32 x_3 16)), (IntKind.u8.wrap (Ae .u32 x_3 8)), (IntKind.u8.wrap x_3)] : List Int)) ++ ([(IntKind.u8.wrap (Ae .u32 x_4 24)), (IntKind.u8.wrap (Ae .u32 x_4 16)), (IntKind.u8.wrap (Ae .u32 x_4 8)), (IntKind.u8.wrap x_4)] : List Int)) ++ ([(IntKind.u8.wrap (Ae .u32 x_5 24)), (IntKind.u8.wrap (Ae .u32 x_5 16)), (IntKind.u8.wrap (Ae .u32 x_5 8)), (IntKind.u8.wrap x_5)] : List Int)) ++ ([(IntKind.u8.wrap (Ae .u32 x_6 24)), (IntKind.u8.wrap (Ae .u32 x_6 16)), (IntKind.u8.wrap (Ae .u32 x_6 8)), (IntKind.u8.wrap x_6)] : List Int)) ++ ([(IntKind.u8.wrap (Ae .u32 x_7 24)), (IntKind.u8.wrap (Ae .u32 x_7 16)), (IntKind.u8.wrap (Ae .u32 x_7 8)), (IntKind.u8.wrap x_7)] : List Int)).length + 4 := by first | rfl | exact List.length_append | simp
   refine Mj ?_
   refine iK ?_
   refine Z3 ?_
   refine Af (jR underlying9 underlying174 underlying5 (hox8.slj Bz)) (k := ?_)
   refine Z4 ?_
   refine Dq [rD7] (qc (qa (qa (qa (qa (qa (qa (qa (qa (qa q0)))))))))) results47 z0 (fun w1 hw1 => ?_)
   exact ⟨(rq (hF.rn9 (hF11.neg hq1))), hw1.ext_out⟩
  refine Py ?_
  refine Ib ?_
  refine Sj ?_
  refine Af (Rq (s := x_9) 64 runUnderlying9 z3) (k := ?_)
  have hsb5 : (x_9.take 64).length = 64 := by first | omega | (simp only [List.length_take, List.length_drop, List.length_cons, List.length_nil] <;> omega)
  refine Ly (vs := [(vt (x_9.take 64))]) hl7 q0 Dw ?_
  refine Cp ?_
  refine Mj ?_
  refine cV ?_
  refine Cp ?_
  refine Af (Bm isAgg162) (k := ?_)
  refine Ck ?_
  refine Bq (args := [_, _]) (Ac call97) func97 ntmps97 ?_
  refine Z3 ?_
  refine Si ?_
  refine Af (Al bU) (k := ?_)
  refine Af (Ch isAgg166 sizeOf166) (k := ?_)
  refine Ak Ag z80 (k := fun r8 hr8 => ?_)
  refine AJ1 ?_
  refine Z0 ?_
  refine aA ?_
  refine Iv ?_
  refine Cy (Ac call151) (fun w1 hw1 => F8 w1 (b := (x_9.take 64)) (hb := Ng)) (k := ?_)
  have hw64_79152 := xI (b := (x_9.take 64))
  refine Rh ?_
  refine sW (σ1 := Nat) (σ2 := Nat) (σ3 := Int) (σ4 := Int) (σ5 := Int) (σ6 := Int) (σ7 := Int) (σ8 := Int) (σ9 := Int) (σ10 := Int) (fun n_22 x_13 x_14 x_15 x_16 x_17 x_18 x_19 x_20 x_21 => ((r8, oc [(Value.int .u32 x_14), (Value.int .u32 x_15), (Value.int .u32 x_16), (Value.int .u32 x_17), (Value.int .u32 x_18), (Value.int .u32 x_19), (Value.int .u32 x_20), (Value.int .u32 x_21)] 166) :: ((l7, Cr rr7 .busy none) :: ((rD7, Obj.deferred (some [])) :: ((r6, oc [(vt x_9)] 9) :: ((r5, oc [(Value.int .u32 1779033703), (Value.int .u32 3144134277), (Value.int .u32 1013904242), (Value.int .u32 2773480762), (Value.int .u32 1359893119), (Value.int .u32 2600822924), (Value.int .u32 528734635), (Value.int .u32 1541459225)] 166) :: ((r4, oc [(Value.int .u32 1779033703), (Value.int .u32 3144134277), (Value.int .u32 1013904242), (Value.int .u32 2773480762), (Value.int .u32 1359893119), (Value.int .u32 2600822924), (Value.int .u32 528734635), (Value.int .u32 1541459225)] 166) :: ((r3, oc [(Value.pointer (some ⟨r2, 0, none⟩))] 162) :: ((r2, oc [(Value.int .u32 x_1), (Value.int .u32 x_2), (Value.int .u32 x_3), (Value.int .u32 x_4), (Value.int .u32 x_5), (Value.int .u32 x_6), (Value.int .u32 x_7), (Value.int .u32 x_8)] 169) :: ((r1, oc [(Value.int .u32 1779033703), (Value.int .u32 3144134277), (Value.int .u32 1013904242), (Value.int .u32 2773480762), (Value.int .u32 1359893119), (Value.int .u32 2600822924), (Value.int .u32 528734635), (Value.int .u32 1541459225)] 166) :: [])))))))))) (fun n_22 x_13 x_14 x_15 x_16 x_17 x_18 x_19 x_20 x_21 => [(0, (Value.pointer (some ⟨r2, 0, none⟩))), (4, (Value.pointer (some ⟨r8, 0, none⟩))), (5, (Value.func (.func 150) [(Value.pointer (some ⟨r8, 0, none⟩))].toArray [].toArray)), (14, (Value.agg (aI .u32 (Sx (x_9.take 64))).toArray)), (15, (vi ((x_13 : Nat) : Int)))]) (fun n_22 x_13 x_14 x_15 x_16 x_17 x_18 x_19 x_20 x_21 => 64 - x_13 < n_22 ∧ Is (gX s x_1 x_2 x_3 x_4 x_5 x_6 x_7 x_8 x_9 (64 + 1) 0 x_1 x_2 x_3 x_4 x_5 x_6 x_7 x_8) (gX s x_1 x_2 x_3 x_4 x_5 x_6 x_7 x_8 x_9 n_22 x_13 x_14 x_15 x_16 x_17 x_18 x_19 x_20 x_21) ∧ x_13 ≤ 64) (fun n_22 x_13 x_14 x_15 x_16 x_17 x_18 x_19 x_20 x_21 => n_22) (64 + 1) 0 x_1 x_2 x_3 x_4 x_5 x_6 x_7 x_8 ?_ se (List.Perm.refl _) ?_
  ·exact ⟨Nat.lt_succ_self _, Is.refl _, z7⟩
  ·rintro (_ | n_22) x_13 x_14 x_15 x_16 x_17 x_18 x_19 x_20 x_21 ⟨hm24, hF23, hi25⟩
   ·omega
   refine Zy ?_
   refine Bi rfl (fun hq2 => ?_) (fun hq2 => ?_)
   ·refine Cg ?_
    refine Du ?_
    refine Ib ?_
    refine Af (AL1 (m := x_13) runUnderlying245 sizeOf164 isAgg164 (hm := z4) (hl := z4)) (k := ?_)
    refine Lq ?_
    refine iO ?_
    refine Af (Ra x_13 x_13 runUnderlying247 sizeOf163 (hm := z4)) (k := ?_)
    obtain ⟨Thgl3, fhgl3, hgl3⟩ := hG.sha
    refine Af (R4 (xs := Ma) (m := x_13) isAgg163 (by (have := xE; omega)) hgl3) (k := ?_)
    refine Bq (args := [_, _, _]) (Ac call150) func150 ntmps150 ?_
    refine Z2 ?_
    refine Af (jP (cs := [_, _]) zeroValue337 AZ6) (k := ?_)
    refine Ak Ag (Cj (l := [_, _]) zeroValue337) (k := fun r9 hr9 => ?_)
    refine Ep (Bn (l' := [_, _]) sizeOf337) (k := ?_)
    refine Jr ?_
    refine Eh mixed 30 [(true, 0), (true, 1), (true, 2), (true, 3), (true, 4), (true, 5), (true, 6), (true, 7), (true, 8), (true, 9), (true, 10), (true, 11), (true, 12), (true, 13), (true, 14), (true, 15), (true, 16), (true, 17), (true, 18), (true, 19), (true, 20), (true, 21), (true, 22), (true, 23), (true, 24), (true, 25), (true, 26), (true, 27), (true, 28), (true, 29)] z2 ?_
    refine Z6 ?_
    refine Be (Fi (m := 0) runUnderlying166 sizeOf164) (k := ?_)
    refine N4 ?_
    refine Be (Fi (m := 1) runUnderlying166 sizeOf164) (k := ?_)
    refine N4 ?_
    refine Be (Fi (m := 2) runUnderlying166 sizeOf164) (k := ?_)
    refine N4 ?_
    refine N6 ?_
    refine N4 ?_
    refine Be (Fi (m := 5) runUnderlying166 sizeOf164) (k := ?_)
    refine N4 ?_
    refine Be (Fi (m := 6) runUnderlying166 sizeOf164) (k := ?_)
    refine Be (Bm isAgg164) (k := ?_)
    refine aJ ?_
    refine aJ ?_
    refine aJ ?_
    refine aJ ?_
    refine aJ ?_
    refine Z21 ?_
    refine Jr ?_
    refine Eh mixed 23 [(true, 0), (true, 1), (true, 2), (true, 3), (true, 4), (true, 5), (true, 6), (true, 9), (true, 10), (true, 11), (true, 12), (true, 13), (true, 14), (true, 15), (true, 16), (true, 18), (true, 20), (false, 7), (true, 8), (true, 17), (true, 19), (true, 21), (true, 22)] z2 ?_
    refine Z6 ?_
    refine Be (Fi (m := 7) runUnderlying166 sizeOf164) (k := ?_)
    refine Be (Bm isAgg164) (k := ?_)
    refine Be (Fi (m := 0) runUnderlying337 sizeOf335) (k := ?_)
    refine Be (Bm isAgg335) (k := ?_)
    refine Li ?_
    refine Fo ?_
    refine Be Nn (k := ?_)
    refine Fo ?_
    refine Be AY9 (k := ?_)
    refine Fo ?_
    refine Be Nn (k := ?_)
    refine Be Lx (k := ?_)
    refine Li ?_
    refine Yv (Ac call202) (fun w1 hw1 => F7 w1 (w_ := x_18)) (k := ?_)
    refine Be Qx (k := ?_)
    refine Be Qx (k := ?_)
    refine Be Qx (k := ?_)
    refine Be Qx (k := ?_)
    refine Z21 ?_
    refine Od ?_
    refine Af (Fi (m := 1) runUnderlying337 sizeOf335) (k := ?_)
    refine Af (Bm isAgg335) (k := ?_)
    refine Ck ?_
    refine Cy (Ac call203) (fun w1 hw1 => F6 w1 (w_ := x_14)) (k := ?_)
    refine Sf ?_
    refine Af Nn (k := ?_)
    refine Sf ?_
    refine Af Nn (k := ?_)
    refine Af Lx (k := ?_)
    refine Sf ?_
    refine Af Nn (k := ?_)
    refine Af Lx (k := ?_)
    refine Af Qx (k := ?_)
    refine Ik ?_
    refine Fz _ _ (vp (qa q0) (nC nE)) mixed 7 [(true, 0), (true, 1), (true, 2), (true, 3), (true, 4), (true, 5), (false, 6)] z2 ?_
    refine Z6 ?_
    refine Be (wZ 1 1 7 runUnderlying166 sizeOf164 (by decide) rfl rfl rfl) (k := ?_)
    refine Z6 ?_
    refine Be (xA 7 runUnderlying166 sizeOf164 (by decide) (by decide) rfl) (k := ?_)
    refine R6 (l' := [_, _, _, _, _, _, _, _]) (us := [_, _, _, _, _, _, _]) runUnderlying249 sizeOf164 q0 me (k := ?_)
    refine Sm ?_
    refine Hw (nC nE) ?_
    refine Jr ?_
    refine Eh mixed 8 [(true, 0), (true, 1), (true, 2), (true, 3), (true, 4), (true, 5), (true, 6), (true, 7)] z2 ?_
    refine Z6 ?_
    refine N6 ?_
    refine oS ?_
    refine oW ?_
    refine N6 ?_
    refine oL ?_
    refine Z0 ?_
    refine iO ?_
    refine Af Qx (k := ?_)
    refine Si ?_
    refine Af (Fi (m := 0) runUnderlying166 sizeOf164) (k := ?_)
    refine Ep (Bn (l' := [_, _, _, _, _, _, _, _]) sizeOf164) (k := ?_)
    refine Dz ?_
    refine Dj results150 Bw.nil ?_
    refine Dz ?_
    refine Ux ?_
    refine Dt _ (((((((((qa (qa (qa (qa (qa (qa (qa (qa (qa q0))))))))).trans (qa (qa (qa (qa (qa (qa (qa (qa (qa q0)))))))))).trans (qa (qa (qa (qa (qa (qa (qa (qa (qa q0)))))))))).trans (qa (qa (qa (qa (qa (qa (qa (qa (qa q0)))))))))).trans (qa (qa (qa (qa (qa (qa (qa (qa (qa q0)))))))))).trans (qa (qa (qa (qa (qa (qa (qa (qa (qa q0)))))))))).trans (qa (qa (qa (qa (qa (qa (qa (qa (qa q0)))))))))).trans (qa (qa (qa (qa (qa (qa (qa (qa (qa q0)))))))))).trans (qa (qa (qa (qa (qa (qa (qa (qa q0))))))))) ?_
    refine Cn _ (List.Sublist.cons_cons _ (List.Sublist.cons_cons _ (List.Sublist.cons_cons _ z14))) ?_
    exact sX n_22 (x_13 + 1) (IntKind.u32.wrap ((IntKind.u32.wrap ((IntKind.u32.wrap ((IntKind.u32.wrap ((IntKind.u32.wrap (x_21 + (dO x_18))) + (Gk .u32 (Cq .u32 x_18 x_19) (Cq .u32 (Gk .u32 (IntKind.max .u32) x_18) x_20)))) + (Ma.getD x_13 default))) + ((Sx (x_9.take 64)).getD x_13 default))) + (IntKind.u32.wrap ((qB x_14) + (Gk .u32 (Gk .u32 (Cq .u32 x_14 x_15) (Cq .u32 x_14 x_16)) (Cq .u32 x_15 x_16)))))) x_14 x_15 x_16 (IntKind.u32.wrap (x_17 + (IntKind.u32.wrap ((IntKind.u32.wrap ((IntKind.u32.wrap ((IntKind.u32.wrap (x_21 + (dO x_18))) + (Gk .u32 (Cq .u32 x_18 x_19) (Cq .u32 (Gk .u32 (IntKind.max .u32) x_18) x_20)))) + (Ma.getD x_13 default))) + ((Sx (x_9.take 64)).getD x_13 default))))) x_18 x_19 x_20 ⟨by omega, (hF23.pos hq2), z3⟩ (Nat.lt_succ_self _) se (List.Perm.refl _)
   refine Cu ?_
   refine Ia ?_
   refine Fz _ _ (vp (qa (qa (qa (qa (qa (qa (qa q0))))))) (nC nE)) mixed 5 [(true, 0), (true, 1), (true, 2), (true, 3), (false, 4)] z2 ?_
   refine Z6 ?_
   refine Be (Al bU) (k := ?_)
   refine Be (eO runUnderlying166 sizeOf164 (by decide)) (k := ?_)
   refine pP (args := [_, _]) (Ac call152) func152 ntmps152 ?_
   refine Z3 ?_
   refine Af (Fg runUnderlying249) (k := ?_)
   refine AV4 ?_
   refine iN ?_
   refine Af (Ei runUnderlying249 sizeOf164 0) (k := ?_)
   refine sE ?_
   refine yJ ?_
   refine Be (Fi (m := 0) runUnderlying166 sizeOf164) (k := ?_)
   refine oS ?_
   refine oW ?_
   refine Be (Fi (m := 0) runUnderlying166 sizeOf164) (k := ?_)
   refine oL ?_
   refine Dz ?_
   refine fQ ?_
   refine Af (Ei runUnderlying249 sizeOf164 1) (k := ?_)
   refine sE ?_
   refine yJ ?_
   refine Be (Fi (m := 1) runUnderlying166 sizeOf164) (k := ?_)
   refine oS ?_
   refine oW ?_
   refine Be (Fi (m := 1) runUnderlying166 sizeOf164) (k := ?_)
   refine oL ?_
   refine Dz ?_
   refine fQ ?_
   refine Af (Ei runUnderlying249 sizeOf164 2) (k := ?_)
   refine sE ?_
   refine yJ ?_
   refine Be (Fi (m := 2) runUnderlying166 sizeOf164) (k := ?_)
   refine oS ?_
   refine oW ?_
   refine Be (Fi (m := 2) runUnderlying166 sizeOf164) (k := ?_)
   refine oL ?_
   refine Dz ?_
   refine fQ ?_
   refine Af (Ei runUnderlying249 sizeOf164 3) (k := ?_)
   refine sE ?_
   refine yJ ?_
   refine Be (Fi (m := 3) runUnderlying166 sizeOf164) (k := ?_)
   refine oS ?_
   refine oW ?_
   refine Be (Fi (m := 3) runUnderlying166 sizeOf164) (k := ?_)
   refine oL ?_
   refine Dz ?_
   refine fQ ?_
   refine Af (Ei runUnderlying249 sizeOf164 4) (k := ?_)
   refine sE ?_
   refine yJ ?_
   refine N6 ?_
   refine oS ?_
   refine oW ?_
   refine N6 ?_
   refine oL ?_
   refine Dz ?_
   refine fQ ?_
   refine Af (Ei runUnderlying249 sizeOf164 5) (k := ?_)
   refine sE ?_
   refine yJ ?_
   refine Be (Fi (m := 5) runUnderlying166 sizeOf164) (k := ?_)
   refine oS ?_
   refine oW ?_
   refine Be (Fi (m := 5) runUnderlying166 sizeOf164) (k := ?_)
   refine oL ?_
   refine Dz ?_
   refine fQ ?_
   refine Af (Ei runUnderlying249 sizeOf164 6) (k := ?_)
   refine sE ?_
   refine yJ ?_
   refine Be (Fi (m := 6) runUnderlying166 sizeOf164) (k := ?_)
   refine oS ?_
   refine oW ?_
   refine Be (Fi (m := 6) runUnderlying166 sizeOf164) (k := ?_)
   refine oL ?_
   refine Dz ?_
   refine fQ ?_
   refine Af (Ei runUnderlying249 sizeOf164 7) (k := ?_)
   refine sE ?_
   refine yJ ?_
   refine Be (Fi (m := 7) runUnderlying166 sizeOf164) (k := ?_)
   refine oS ?_
   refine oW ?_
   refine Be (Fi (m := 7) runUnderlying166 sizeOf164) (k := ?_)
   refine oL ?_
   refine Dz ?_
   refine fF ?_
   refine Z53 ?_
   refine Q6 _ _ results152 Bw.nil (vp (List.Perm.refl _) (nC nE)) z37 ?_
   refine Sm ?_
   refine Hw (nC nE) ?_
   refine Dz ?_
   refine Dj results97 Bw.nil ?_
   refine M2 ?_
   refine Fu (qa (qa q0)) ?_
   refine Rf ?_
   refine Zz ?_
   refine Z36 ?_
   refine Sj ?_
   refine Af (Q7 (s := x_9) 64 runUnderlying9 z3) (k := ?_)
   have hsb6 : (x_9.drop 64).length = x_9.length - 64 := by first | omega | (simp only [List.length_take, List.length_drop, List.length_cons, List.length_nil] <;> omega)
   refine Ep (Bn (l' := [_]) sizeOf9) (k := ?_)
   refine Dz ?_
   refine Dt _ ((((((((qa (qa (qa (qa (qa (qa (qa (qa q0)))))))).trans (qa (qa q0))).trans (qa (qa (qa (qa (qa (qa (qa (qa q0))))))))).trans (qa (qa (qa (qa (qa (qa (qa (qa q0))))))))).trans (qa (qa (qa (qa (qa (qa (qa (qa q0))))))))).trans (qa (qa (qa (qa (qa (qa (qa (qa q0))))))))).trans (qa (qa (qa (qa (qa (qa (qa (qa q0))))))))).trans (qa (qa (qa (qa (qa (qa (qa q0)))))))) ?_
   refine Cn _ (List.Sublist.cons_cons _ (List.Sublist.cons_cons _ z14)) ?_
   exact sX n_10 (IntKind.u32.wrap (x_1 + x_14)) (IntKind.u32.wrap (x_2 + x_15)) (IntKind.u32.wrap (x_3 + x_16)) (IntKind.u32.wrap (x_4 + x_17)) (IntKind.u32.wrap (x_5 + x_18)) (IntKind.u32.wrap (x_6 + x_19)) (IntKind.u32.wrap (x_7 + x_20)) (IntKind.u32.wrap (x_8 + x_21)) (x_9.drop 64) ⟨by omega, ((hF11.pos hq1).rn9 (hF23.neg hq2))⟩ (Nat.lt_succ_self _) se (List.Perm.refl _)

end Go.Proofs.YtdnjanhdnibkfaaGreatDoor.Jd

namespace Go.Proofs.YtdnjanhdnibkfaaGreatDoor.Jd
open Go.Proofs.Tryz
open Go.Proofs
open Go.RowKit (Below)
set_option maxRecDepth 100000
set_option maxHeartbeats 8000000
set_option linter.unusedVariables false
set_option linter.unusedSimpArgs false
theorem uF : Bl Tryz.prog 229 0 0 := fun r k w => by simp [Instr.fieldAt, Instr.sureAddr, fieldPlace, Bc]
theorem AZ7 : Fh Tryz.prog 229 [(0, 1)] := ⟨_, fun w => runUnderlying229 w, fun w => by simp⟩
theorem F9 : Ty Tryz.prog 9 1 16 (vt ([] : An)) := ⟨⟨Tryz.t9, by kernel_rfl, rfl, rfl, rfl⟩, rfl⟩
theorem dU (w : World) {key : An} : Ha Tryz.prog 130 [(vt key)] w (Value.bool (Vo key)) := by
 have hF := Is.refl (Vo key)
 refine enter func130 ntmps130 (h := ?_)
 refine Mq ?_
 refine iW ?_
 refine Af Qg (k := ?_)
 refine Ck ?_
 refine Ao 6 rfl (fun hq1 => ?_) (fun hq1 => ?_)
 rotate_left
 ·refine Ab 3 rfl ?_
  refine Hz ?_
  refine Aa results130 z0 (fun w1 hw1 => ?_)
  exact ⟨(rq (hF.neg hq1)), hw1.ext_out⟩
 refine El ?_
 refine Ar (pQ runUnderlying9) (k := ?_)
 refine Ar Lm (k := ?_)
 refine Ot ?_
 refine Aa results130 z0 (fun w1 hw1 => ?_)
 exact ⟨(rq (hF.pos hq1)), hw1.ext_out⟩

theorem AN0 (w : World) {l_a : Option Addr} {l_c : Nat} {ea0 : Addr} {ea1 : Addr} {ea2 : Addr} {ea3 : Addr} {ea4 : Addr} {ea5 : Addr} {ea6 : Addr} {ea7 : Addr} {ea8 : Addr} {ea9 : Addr} {ea10 : Addr} {ea11 : Addr} {ea12 : Addr} {ea13 : Addr} {ea14 : Addr} {ea15 : Addr} {key : An} {l : List An} (h_l : Sl w eS 1 l_a l) (n_l : l.length ≤ 1000) (k_l : l.length ≤ l_c) (hG : Gl w) (hE : Er w ea0 ea1 ea2 ea3 ea4 ea5 ea6 ea7 ea8 ea9 ea10 ea11 ea12 ea13 ea14 ea15) (hj : (Lib.join l []).length ≤ 100000) : Ha Tryz.prog 80 [(vt key), (vs l_a l.length l_c)] w (vt (T7 key l)) := by
 have hF := Is.refl (T7 key l)
 refine enter func80 ntmps80 (h := ?_)
 refine Nk ?_
 refine Ak Ag (Cj (l := aI .u8 (List.replicate 64 (0 : Int))) zeroValue226 z2) (k := fun r1 hr1 => ?_)
 have hrlr1 := List.length_replicate (n := 64) (a := (0 : Int))
 refine Od ?_
 refine Af (eO runUnderlying226 sizeOf5 (by decide)) (k := ?_)
 refine Ck ?_
 refine R7 (n := 64) runUnderlying174 sizeOf5 q0 z4 (k := ?_)
 have hcp1 : (Lg (key.take 64) ++ (List.replicate 64 (0 : Int)).drop key.length).length = 64 := by simp only [List.length_append, List.length_drop, List.length_take, Cw]; omega
 refine Od ?_
 refine Af (Cx (cs := [_]) zeroValue229 AZ7) (k := ?_)
 refine Ak Ag (Cj (l := [_]) zeroValue229) (k := fun r2 hr2 => ?_)
 refine Ep (Bn (l' := [_]) sizeOf229) (k := ?_)
 refine Od ?_
 refine Af (Ch isAgg229 sizeOf229) (k := ?_)
 refine fU ?_
 refine Hq ?_
 refine Af (Ch isAgg229 sizeOf229) (k := ?_)
 refine Ck ?_
 refine bA (args := [_, _, _]) (Ac call131) func131 ntmps131 ?_
 refine Z2 ?_
 refine Ak Ag z31 (k := fun r3 hr3 => ?_)
 refine Kt ?_
 refine Ak Ag (Cj (l := [_]) zeroValue174) (k := fun r4 hr4 => ?_)
 refine Jr ?_
 refine Z2 ?_
 refine Af (Al uF) (k := ?_)
 refine Af (Bm isAgg227) (k := ?_)
 refine Ck ?_
 refine Bq (args := [_, _]) (Ac call191) func191 ntmps191 ?_
 refine Z2 ?_
 refine Ak Ag z31 (k := fun r5 hr5 => ?_)
 refine Ak Ag z31 (k := fun r6 hr6 => ?_)
 refine aE ?_
 refine Bd results191 z0 ?_
 refine Nj ?_
 refine Fx Ag rfl call241 func241 ntmps241 (fun l7 rD7 rr7 hl7 => ?_)
 refine fR ?_
 refine Af (Bm isAgg227) (k := ?_)
 refine Rh ?_
 refine Ml (σ1 := Nat) (σ2 := Nat) (σ3 := List Int) (σ4 := Option Addr) (σ5 := Nat) (σ6 := Av) (fun n_3 x_1 x_2 x_2a x_2c x_2B => (x_2B ++ ((l7, Cr rr7 .ready none) :: ((rD7, Obj.deferred (some [])) :: ((r6, oc [(Value.int .u8 54)] 5) :: ((r5, oc [(Value.pointer (some ⟨r1, 0, none⟩))] 227) :: ((r4, oc [(vs x_2a x_2.length x_2c)] 174) :: ((r3, oc [(Value.pointer (some ⟨r1, 0, none⟩))] 229) :: ((r2, oc [(Value.pointer (some ⟨r1, 0, none⟩))] 229) :: ((r1, Obj.cells (aI .u8 (Lg (key.take 64) ++ (List.replicate 64 (0 : Int)).drop key.length)).toArray 226) :: [])))))))))) (fun n_3 x_1 x_2 x_2a x_2c x_2B => [(0, (Value.func (.yield l7) [].toArray [].toArray)), (2, (Value.pointer (some ⟨r6, 0, none⟩))), (6, (Value.pointer (some ⟨r1, 0, none⟩))), (7, (vi ((x_1 : Nat) : Int)))]) (fun n_3 x_1 x_2 x_2a x_2c x_2B => 64 - x_1 < n_3 ∧ Is (hQ key l (64 + 1) 0 []) (hQ key l n_3 x_1 x_2) ∧ Bt eN 1 5 x_2a x_2c x_2B x_2 ∧ x_2.length = x_1 ∧ x_1 ≤ 64) (fun n_3 x_1 x_2 x_2a x_2c x_2B => n_3) (64 + 1) 0 ([]) none 0 ([]) ?_ se (List.Perm.refl _) ?_
 ·exact ⟨Nat.lt_succ_self _, Is.refl _, Bt.nil, z7, z7⟩
 ·rintro (_ | n_3) x_1 x_2 x_2a x_2c x_2B ⟨hm5, hF4, hx_2, hi6, hi7⟩
  ·omega
  refine Zy ?_
  refine Bi rfl (fun hq1 => ?_) (fun hq1 => ?_)
  ·refine Cg ?_
   refine Du ?_
   refine yI ?_
   refine Z2 ?_
   refine Si ?_
   refine Af (Ra x_1 x_1 runUnderlying226 sizeOf5 (hm := z4)) (k := ?_)
   refine Af (Ss (m := x_1) (xs := (Lg (key.take 64) ++ (List.replicate 64 (0 : Int)).drop key.length)) isAgg5 z4) (k := ?_)
   refine Ji ?_
   refine Af (Bm isAgg5) (k := ?_)
   refine Af Lx (k := ?_)
   refine Ly (vs := [(Value.int .u8 (Gk .u8 ((Lg (key.take 64) ++ (List.replicate 64 (0 : Int)).drop key.length).getD x_1 default) 54))]) hl7 (qc q0) Dw ?_
   refine Cp ?_
   refine Mj ?_
   refine cV ?_
   refine Cp ?_
   refine Af (Bm isAgg174) (k := ?_)
   refine Ck ?_
   refine Ak Ag I9 (k := fun r8 hr8 => ?_)
   refine Bb (x_2 ++ ([(Gk .u8 ((Lg (key.take 64) ++ (List.replicate 64 (0 : Int)).drop key.length).getD x_1 default) 54)] : List Int)) rfl Rw underlying174 Bz hx_2 (qb (qb q0)) (Cl.lit (xs := ([(Gk .u8 ((Lg (key.take 64) ++ (List.replicate 64 (0 : Int)).drop key.length).getD x_1 default) 54)] : List Int)) Bz) ⟨by omega, by omega⟩ (n := x_2.length) (m := 1) (k := fun ax1 cx1 Bx1 hox1 => ?_)
   have hal1 : (x_2 ++ ([(Gk .u8 ((Lg (key.take 64) ++ (List.replicate 64 (0 : Int)).drop key.length).getD x_1 default) 54)] : List Int)).length = x_2.length + 1 := by first | rfl | exact List.length_append | simp
   refine Ep (Bn (l' := [_]) sizeOf174) (k := ?_)
   refine D3 ?_
   refine Rf ?_
   refine Sh ?_
   refine Dt _ (((((((((qa (qc (qa (qa (qa (qa (qa (qa (qa q0))))))))).trans (qa (qa (qc (qa (qa (qa (qa (qa (qa q0)))))))))).trans (qa (qa (qa (qc (qa (qa (qa (qa (qa q0)))))))))).trans (qa (qa (qa (qa (qc (qa (qa (qa (qa q0)))))))))).trans (qa (qa (qa (qa (qa (qc (qa (qa (qa q0)))))))))).trans (qa (qa (qa (qa (qa (qa (qc (qa (qa q0)))))))))).trans (qa (qa (qa (qa (qa (qa (qa (qc (qa q0)))))))))).trans (qa (qa (qa (qa (qa (qa (qa q0)))))))).trans (qb (qb (qb (qb (qb (qb (qb (qb q0))))))))) ?_
   refine Cn _ (List.Sublist.append z37 (List.Sublist.cons_cons _ (List.Sublist.cons_cons _ z14))) ?_
   exact Hv n_3 (x_1 + 1) (x_2 ++ ([(Gk .u8 ((Lg (key.take 64) ++ (List.replicate 64 (0 : Int)).drop key.length).getD x_1 default) 54)] : List Int)) ax1 cx1 Bx1 ⟨by omega, (hF4.pos hq1), hox1, z3, z3⟩ (Nat.lt_succ_self _) se (List.Perm.refl _)
  refine Cu ?_
  refine Ko ?_
  refine Gh (.inr rfl) results241 (qc q0) ?_
  refine kX ?_
  refine Eu ?_
  refine yS  ( ((l7, Cr rr7 .exhausted none) :: (x_2B ++ ((rD7, Obj.deferred (some [])) :: ((r6, oc [(Value.int .u8 54)] 5) :: ((r5, oc [(Value.pointer (some ⟨r1, 0, none⟩))] 227) :: ((r4, oc [(vs x_2a x_2.length x_2c)] 174) :: ((r3, oc [(Value.pointer (some ⟨r1, 0, none⟩))] 229) :: ((r2, oc [(Value.pointer (some ⟨r1, 0, none⟩))] 229) :: ((r1, Obj.cells (aI .u8 (Lg (key.take 64) ++ (List.replicate 64 (0 : Int)).drop key.length)).toArray 226) :: [])))))))))) ( [(6, (Value.string (bs (Nr ((Pn x_2) ++ (Lib.join l ([] : An)))))))]) ( Is () ()) ?_ ?_
  ·skip
   refine Xx (V := []) mixed 7 z2 ?_
   refine Ct 0 rfl z2 (Bm isAgg174) (k := ?_)
   refine Ct 2 rfl z2 Gf (k := ?_)
   refine Cc [1, 3] z2 rfl (List.forall_mem_cons.2 ⟨?_, (List.forall_mem_cons.2 ⟨?_, nofun⟩)⟩)
   ·skip
    refine xB rfl (jR underlying9 underlying174 underlying5 (hx_2.slj Bz)) (k := ?_)
    refine Cc [3] z2 rfl (List.forall_mem_cons.2 ⟨?_, nofun⟩)
    ·skip
     refine BH2 ?_
     have hjl_36544 : (Lib.join l ([] : An)).length ≤ 100000 := by first | omega | (rw [Pu, Gx]; omega)
     refine Ct 4 rfl z2 (jN (s := (Pn x_2)) (s' := (Lib.join l ([] : An))) (h := by (simp only [Di]; omega))) (k := ?_)
     have hsa3 : ((Pn x_2) ++ (Lib.join l ([] : An))).length = (Pn x_2).length + (Lib.join l ([] : An)).length := by simp only [List.length_append, List.length_cons, List.length_nil, Nat.zero_add]
     refine Cc [5] z2 rfl (List.forall_mem_cons.2 ⟨?_, nofun⟩)
     ·skip
      refine BH3 ?_
      have hsum_53659 := Gx ((Pn x_2) ++ (Lib.join l ([] : An)))
      refine AG2 ?_
      refine Dz ?_
      exact aY  (Is.refl ()) se (List.Perm.refl _)
   ·skip
    refine BH2 ?_
    have hjl_36544 : (Lib.join l ([] : An)).length ≤ 100000 := by first | omega | (rw [Pu, Gx]; omega)
    refine Cc [1] z2 rfl (List.forall_mem_cons.2 ⟨?_, nofun⟩)
    ·skip
     refine xB rfl (jR underlying9 underlying174 underlying5 (hx_2.slj Bz)) (k := ?_)
     refine Ct 4 rfl z2 (jN (s := (Pn x_2)) (s' := (Lib.join l ([] : An))) (h := by (simp only [Di]; omega))) (k := ?_)
     have hsa4 : ((Pn x_2) ++ (Lib.join l ([] : An))).length = (Pn x_2).length + (Lib.join l ([] : An)).length := by simp only [List.length_append, List.length_cons, List.length_nil, Nat.zero_add]
     refine Cc [5] z2 rfl (List.forall_mem_cons.2 ⟨?_, nofun⟩)
     ·skip
      refine BH3 ?_
      have hsum_53659 := Gx ((Pn x_2) ++ (Lib.join l ([] : An)))
      refine AG2 ?_
      refine Dz ?_
      exact aY  (Is.refl ()) se (List.Perm.refl _)
  intro  hJ8
  refine Du ?_
  refine iZ ?_
  refine Kx [rD7] (qa (qc q0)) results131 z0 ?_
  refine Ak Ag z33 (k := fun r169 hr169 => ?_)
  refine bA (args := [_, _, _]) (Ac call131) func131 ntmps131 ?_
  refine Z2 ?_
  refine Ak Ag z31 (k := fun r170 hr170 => ?_)
  refine Kt ?_
  refine Ak Ag (Cj (l := [_]) zeroValue174) (k := fun r171 hr171 => ?_)
  refine Jr ?_
  refine Z2 ?_
  refine Af (Al uF) (k := ?_)
  refine Af (Bm isAgg227) (k := ?_)
  refine Ck ?_
  refine Bq (args := [_, _]) (Ac call191) func191 ntmps191 ?_
  refine Z2 ?_
  refine Ak Ag z31 (k := fun r172 hr172 => ?_)
  refine Ak Ag z31 (k := fun r173 hr173 => ?_)
  refine aE ?_
  refine Bd results191 z0 ?_
  refine Nj ?_
  refine Fx Ag rfl call241 func241 ntmps241 (fun l174 rD174 rr174 hl174 => ?_)
  refine fR ?_
  refine Af (Bm isAgg227) (k := ?_)
  refine Rh ?_
  refine Ml (σ1 := Nat) (σ2 := Nat) (σ3 := List Int) (σ4 := Option Addr) (σ5 := Nat) (σ6 := Av) (fun n_11 x_9 x_10 x_10a x_10c x_10B => (x_10B ++ ((l174, Cr rr174 .ready none) :: ((rD174, Obj.deferred (some [])) :: ((r173, oc [(Value.int .u8 92)] 5) :: ((r172, oc [(Value.pointer (some ⟨r1, 0, none⟩))] 227) :: ((r171, oc [(vs x_10a x_10.length x_10c)] 174) :: ((r170, oc [(Value.pointer (some ⟨r1, 0, none⟩))] 229) :: ((r169, oc [(Value.string (bs (Nr ((Pn x_2) ++ (Lib.join l ([] : An))))))] 9) :: ((l7, Cr rr7 .exhausted none) :: (x_2B ++ ((r6, oc [(Value.int .u8 54)] 5) :: ((r5, oc [(Value.pointer (some ⟨r1, 0, none⟩))] 227) :: ((r4, oc [(vs x_2a x_2.length x_2c)] 174) :: ((r3, oc [(Value.pointer (some ⟨r1, 0, none⟩))] 229) :: ((r2, oc [(Value.pointer (some ⟨r1, 0, none⟩))] 229) :: ((r1, Obj.cells (aI .u8 (Lg (key.take 64) ++ (List.replicate 64 (0 : Int)).drop key.length)).toArray 226) :: []))))))))))))))))) (fun n_11 x_9 x_10 x_10a x_10c x_10B => [(0, (Value.func (.yield l174) [].toArray [].toArray)), (2, (Value.pointer (some ⟨r173, 0, none⟩))), (6, (Value.pointer (some ⟨r1, 0, none⟩))), (7, (vi ((x_9 : Nat) : Int)))]) (fun n_11 x_9 x_10 x_10a x_10c x_10B => 64 - x_9 < n_11 ∧ Is (hP key l x_1 x_2 (64 + 1) 0 []) (hP key l x_1 x_2 n_11 x_9 x_10) ∧ Bt eN 1 5 x_10a x_10c x_10B x_10 ∧ x_10.length = x_9 ∧ x_9 ≤ 64) (fun n_11 x_9 x_10 x_10a x_10c x_10B => n_11) (64 + 1) 0 ([]) none 0 ([]) ?_ se (List.Perm.refl _) ?_
  ·exact ⟨Nat.lt_succ_self _, Is.refl _, Bt.nil, z7, z7⟩
  ·rintro (_ | n_11) x_9 x_10 x_10a x_10c x_10B ⟨hm13, hF12, hx_10, hi14, hi15⟩
   ·omega
   refine Zy ?_
   refine Bi rfl (fun hq2 => ?_) (fun hq2 => ?_)
   ·refine Cg ?_
    refine Du ?_
    refine yI ?_
    refine Z2 ?_
    refine Si ?_
    refine Af (Ra x_9 x_9 runUnderlying226 sizeOf5 (hm := z4)) (k := ?_)
    refine Af (Ss (m := x_9) (xs := (Lg (key.take 64) ++ (List.replicate 64 (0 : Int)).drop key.length)) isAgg5 z4) (k := ?_)
    refine Ji ?_
    refine Af (Bm isAgg5) (k := ?_)
    refine Af Lx (k := ?_)
    refine Ly (vs := [(Value.int .u8 (Gk .u8 ((Lg (key.take 64) ++ (List.replicate 64 (0 : Int)).drop key.length).getD x_9 default) 92))]) hl174 (qc q0) Dw ?_
    refine Cp ?_
    refine Mj ?_
    refine cV ?_
    refine Cp ?_
    refine Af (Bm isAgg174) (k := ?_)
    refine Ck ?_
    refine Ak Ag I9 (k := fun r175 hr175 => ?_)
    refine Bb (x_10 ++ ([(Gk .u8 ((Lg (key.take 64) ++ (List.replicate 64 (0 : Int)).drop key.length).getD x_9 default) 92)] : List Int)) rfl Rw underlying174 Bz hx_10 (qb (qb q0)) (Cl.lit (xs := ([(Gk .u8 ((Lg (key.take 64) ++ (List.replicate 64 (0 : Int)).drop key.length).getD x_9 default) 92)] : List Int)) Bz) ⟨by omega, by omega⟩ (n := x_10.length) (m := 1) (k := fun ax162 cx162 Bx162 hox162 => ?_)
    have hal162 : (x_10 ++ ([(Gk .u8 ((Lg (key.take 64) ++ (List.replicate 64 (0 : Int)).drop key.length).getD x_9 default) 92)] : List Int)).length = x_10.length + 1 := by first | rfl | exact List.length_append | simp
    refine Ep (Bn (l' := [_]) sizeOf174) (k := ?_)
    refine D3 ?_
    refine Rf ?_
    refine Sh ?_
    refine Dt _ ((((((((((((((((qa (qc (qa (qa (qa (qa (qa (qa (qa (qa (qc (qa (qa (qa (qa (qa q0)))))))))))))))).trans (qa (qa (qc (qa (qa (qa (qa (qa (qa (qa (qa (qc (qa (qa (qa (qa q0))))))))))))))))).trans (qa (qa (qa (qc (qa (qa (qa (qa (qa (qa (qa (qa (qc (qa (qa (qa q0))))))))))))))))).trans (qa (qa (qa (qa (qc (qa (qa (qa (qa (qa (qa (qa (qa (qc (qa (qa q0))))))))))))))))).trans (qa (qa (qa (qa (qa (qc (qa (qa (qa (qa (qa (qa (qa (qa (qc (qa q0))))))))))))))))).trans (qa (qa (qa (qa (qa (qa (qc (qa (qa (qa (qa (qa (qa (qa (qa (qc q0))))))))))))))))).trans (qb (qb (qb (qb (qb (qb (qb (qd (qb (qb (qb (qb (qb (qb (qb (qb q0))))))))))))))))).trans (qc (qa (qa (qa (qa (qa (qa (qa (qc (qa (qa (qa (qa (qa (qa (qa q0))))))))))))))))).trans (qa (qc (qa (qa (qa (qa (qa (qa (qa (qc (qa (qa (qa (qa (qa (qa q0))))))))))))))))).trans (qa (qa (qc (qa (qa (qa (qa (qa (qa (qa (qc (qa (qa (qa (qa (qa q0))))))))))))))))).trans (qa (qa (qa (qc (qa (qa (qa (qa (qa (qa (qa (qc (qa (qa (qa (qa q0))))))))))))))))).trans (qa (qa (qa (qa (qc (qa (qa (qa (qa (qa (qa (qa (qc (qa (qa (qa q0))))))))))))))))).trans (qa (qa (qa (qa (qa (qc (qa (qa (qa (qa (qa (qa (qa (qc (qa (qa q0))))))))))))))))).trans (qa (qa (qa (qa (qa (qa (qc (qa (qa (qa (qa (qa (qa (qa (qc (qa q0))))))))))))))))).trans (qa (qa (qa (qa (qa (qa (qa (qc (qa (qa (qa (qa (qa (qa q0))))))))))))))).trans (qb (qb (qb (qb (qb (qb (qb (qb (qd (qb (qb (qb (qb (qb (qb q0)))))))))))))))) ?_
    refine Cn _ (List.Sublist.append z37 (List.Sublist.cons_cons _ (List.Sublist.cons_cons _ (List.Sublist.cons_cons _ (List.Sublist.cons_cons _ (List.Sublist.cons_cons _ (List.Sublist.cons_cons _ (List.Sublist.cons_cons _ (List.Sublist.cons_cons _ (List.Sublist.append z37 z14)))))))))) ?_
    exact Hv n_11 (x_9 + 1) (x_10 ++ ([(Gk .u8 ((Lg (key.take 64) ++ (List.replicate 64 (0 : Int)).drop key.length).getD x_9 default) 92)] : List Int)) ax162 cx162 Bx162 ⟨by omega, (hF12.pos hq2), hox162, z3, z3⟩ (Nat.lt_succ_self _) se (List.Perm.refl _)
   refine Cu ?_
   refine Ko ?_
   refine Gh (.inr rfl) results241 (qc q0) ?_
   refine kX ?_
   refine Eu ?_
   refine yS  ( ((l174, Cr rr174 .exhausted none) :: (x_10B ++ ((rD174, Obj.deferred (some [])) :: ((r173, oc [(Value.int .u8 92)] 5) :: ((r172, oc [(Value.pointer (some ⟨r1, 0, none⟩))] 227) :: ((r171, oc [(vs x_10a x_10.length x_10c)] 174) :: ((r170, oc [(Value.pointer (some ⟨r1, 0, none⟩))] 229) :: ((r169, oc [(Value.string (bs (Nr ((Pn x_2) ++ (Lib.join l ([] : An))))))] 9) :: ((l7, Cr rr7 .exhausted none) :: (x_2B ++ ((r6, oc [(Value.int .u8 54)] 5) :: ((r5, oc [(Value.pointer (some ⟨r1, 0, none⟩))] 227) :: ((r4, oc [(vs x_2a x_2.length x_2c)] 174) :: ((r3, oc [(Value.pointer (some ⟨r1, 0, none⟩))] 229) :: ((r2, oc [(Value.pointer (some ⟨r1, 0, none⟩))] 229) :: ((r1, Obj.cells (aI .u8 (Lg (key.take 64) ++ (List.replicate 64 (0 : Int)).drop key.length)).toArray 226) :: []))))))))))))))))) ( [(6, (Value.string (bs (Nr ((Pn x_10) ++ (Lib.join ([(Nr ((Pn x_2) ++ (Lib.join l ([] : An))))] : List An) ([] : An)))))))]) ( Is () ()) ?_ ?_
   ·skip
    refine Xx (V := []) mixed 7 z2 ?_
    refine Ct 0 rfl z2 (Bm isAgg174) (k := ?_)
    refine Ct 2 rfl z2 Gf (k := ?_)
    refine Cc [1, 3] z2 rfl (List.forall_mem_cons.2 ⟨?_, (List.forall_mem_cons.2 ⟨?_, nofun⟩)⟩)
    ·skip
     refine xB rfl (jR underlying9 underlying174 underlying5 (hx_10.slj Bz)) (k := ?_)
     refine Cc [3] z2 rfl (List.forall_mem_cons.2 ⟨?_, nofun⟩)
     ·skip
      refine BH4 ?_
      have hjl_28132 : (Lib.join ([(Nr ((Pn x_2) ++ (Lib.join l ([] : An))))] : List An) ([] : An)).length ≤ 100000 := by first | omega | (rw [Pu, Gx]; omega)
      refine BH5 ?_
      have hsa7 : ((Pn x_10) ++ (Lib.join ([(Nr ((Pn x_2) ++ (Lib.join l ([] : An))))] : List An) ([] : An))).length = (Pn x_10).length + (Lib.join ([(Nr ((Pn x_2) ++ (Lib.join l ([] : An))))] : List An) ([] : An)).length := by simp only [List.length_append, List.length_cons, List.length_nil, Nat.zero_add]
      refine Cc [5] z2 rfl (List.forall_mem_cons.2 ⟨?_, nofun⟩)
      ·skip
       refine BH6 ?_
       have hsum_10167 := Gx ((Pn x_10) ++ (Lib.join ([(Nr ((Pn x_2) ++ (Lib.join l ([] : An))))] : List An) ([] : An)))
       refine AG2 ?_
       refine Dz ?_
       exact aY  (Is.refl ()) se (List.Perm.refl _)
    ·skip
     refine BH4 ?_
     have hjl_28132 : (Lib.join ([(Nr ((Pn x_2) ++ (Lib.join l ([] : An))))] : List An) ([] : An)).length ≤ 100000 := by first | omega | (rw [Pu, Gx]; omega)
     refine Cc [1] z2 rfl (List.forall_mem_cons.2 ⟨?_, nofun⟩)
     ·skip
      refine xB rfl (jR underlying9 underlying174 underlying5 (hx_10.slj Bz)) (k := ?_)
      refine BH5 ?_
      have hsa8 : ((Pn x_10) ++ (Lib.join ([(Nr ((Pn x_2) ++ (Lib.join l ([] : An))))] : List An) ([] : An))).length = (Pn x_10).length + (Lib.join ([(Nr ((Pn x_2) ++ (Lib.join l ([] : An))))] : List An) ([] : An)).length := by simp only [List.length_append, List.length_cons, List.length_nil, Nat.zero_add]
      refine Cc [5] z2 rfl (List.forall_mem_cons.2 ⟨?_, nofun⟩)
      ·skip
       refine BH6 ?_
       have hsum_10167 := Gx ((Pn x_10) ++ (Lib.join ([(Nr ((Pn x_2) ++ (Lib.join l ([] : An))))] : List An) ([] : An)))
       refine AG2 ?_
       refine Dz ?_
       exact aY  (Is.refl ()) se (List.Perm.refl _)
   intro  hJ16
   refine Du ?_
   refine iZ ?_
   refine Kx [rD174] (qa (qc q0)) results131 z0 ?_
   refine Z4 ?_
   refine Aa results80 z0 (fun w1 hw1 => ?_)
   exact ⟨(rq ((((hF.rn2 (hF4.neg hq1)).rn0 hJ8).rn2 (hF12.neg hq2)).rn0 hJ16)), hw1.ext_out⟩

theorem V2 (w : World) {a : An} {b : An} (n_a : a.length ≤ 1000000) (n_b : b.length ≤ 1000000) : Ha Tryz.prog 50 [(vt a), (vt b)] w (Value.bool (T8 a b)) := by
 have hF := Is.refl (T8 a b)
 refine enter func50 ntmps50 (h := ?_)
 refine Mq ?_
 refine iW ?_
 refine Ck ?_
 refine iW ?_
 refine Af Lx (k := ?_)
 refine Iv ?_
 refine iW ?_
 refine Ck ?_
 refine iW ?_
 refine Af Vk (k := ?_)
 refine Rh ?_
 refine Il (σ1 := Nat) (σ2 := Nat) (σ3 := Int) (fun n_3 x_1 differ_2 => []) (fun n_3 x_1 differ_2 => [(0, (vt a)), (1, (vt b)), (4, (Value.bool false)), (5, (vi differ_2)), (16, (vi (if ((b.length : Nat) : Int) < ((a.length : Nat) : Int) then ((b.length : Nat) : Int) else ((a.length : Nat) : Int)))), (17, (vi ((x_1 : Nat) : Int)))]) (fun n_3 x_1 differ_2 => ((if ((b.length : Nat) : Int) < ((a.length : Nat) : Int) then ((b.length : Nat) : Int) else ((a.length : Nat) : Int)) - ((x_1 : Nat) : Int)).toNat < n_3 ∧ Is (bK a b (((if ((b.length : Nat) : Int) < ((a.length : Nat) : Int) then ((b.length : Nat) : Int) else ((a.length : Nat) : Int)) - ((0 : Nat) : Int)).toNat + 1) 0 (Gk .i64 ((a.length : Nat) : Int) ((b.length : Nat) : Int))) (bK a b n_3 x_1 differ_2)) (fun n_3 x_1 differ_2 => n_3) (((if ((b.length : Nat) : Int) < ((a.length : Nat) : Int) then ((b.length : Nat) : Int) else ((a.length : Nat) : Int)) - ((0 : Nat) : Int)).toNat + 1) 0 (Gk .i64 ((a.length : Nat) : Int) ((b.length : Nat) : Int)) ?_ se (List.Perm.refl _) ?_
 ·exact ⟨Nat.lt_succ_self _, Is.refl _⟩
 ·rintro (_ | n_3) x_1 differ_2 ⟨hm5, hF4⟩
  ·omega
  refine Zy ?_
  refine Bi rfl (fun hq1 => ?_) (fun hq1 => ?_)
  rotate_left
  ·refine Cu ?_
   refine Ia ?_
   refine Z3 ?_
   refine wE ?_
   refine Aa results50 z0 (fun w1 hw1 => ?_)
   exact ⟨(rq (hF.rn2 (hF4.neg hq1))), hw1.ext_out⟩
  refine Py ?_
  refine Ib ?_
  refine Z1 ?_
  refine Eh mixed 11 [(true, 0), (true, 1), (true, 2), (true, 3), (true, 4), (true, 5), (true, 6), (true, 7), (false, 8), (true, 9), (true, 10)] z2 ?_
  refine Li ?_
  refine Fo ?_
  have hu23 := yY (a.getD x_1 default)
  refine Be (pR (s := a) x_1 runUnderlying9 z4) (k := ?_)
  refine Li ?_
  have hu26 := yY (b.getD x_1 default)
  refine Be (pR (s := b) x_1 runUnderlying9 z4) (k := ?_)
  refine Be Lx (k := ?_)
  refine Be (Ky (r := (Gk .u8 (((a.getD x_1 default).toNat : Nat) : Int) (((b.getD x_1 default).toNat : Nat) : Int))) (Hh z88) runUnderlying5 runUnderlying3) (k := ?_)
  refine Be Rr (k := ?_)
  refine Z21 ?_
  refine Dz ?_
  refine Ux ?_
  exact Ga n_3 (x_1 + 1) (tH .i64 differ_2 (Gk .u8 (((a.getD x_1 default).toNat : Nat) : Int) (((b.getD x_1 default).toNat : Nat) : Int))) ⟨by omega, (hF4.pos hq1)⟩ (Nat.lt_succ_self _) se (List.Perm.refl _)

theorem uG (w : World) {ea0 : Addr} {ea1 : Addr} {ea2 : Addr} {ea3 : Addr} {ea4 : Addr} {ea5 : Addr} {ea6 : Addr} {ea7 : Addr} {ea8 : Addr} {ea9 : Addr} {ea10 : Addr} {ea11 : Addr} {ea12 : Addr} {ea13 : Addr} {ea14 : Addr} {ea15 : Addr} {a : Int} {b : Int} (i_a : -9223372036854775808 ≤ a ∧ a ≤ 9223372036854775807) (i_b : -9223372036854775808 ≤ b ∧ b ≤ 9223372036854775807) (hG : Gl w) (hE : Er w ea0 ea1 ea2 ea3 ea4 ea5 ea6 ea7 ea8 ea9 ea10 ea11 ea12 ea13 ea14 ea15) : Ha Tryz.prog 16 [(vi a), (vi b)] w (Value.tuple [(vt ((Ic a b).1)), (vi ((Ic a b).2))].toArray) := by
 have hF := Is.refl (Ic a b)
 refine enter func16 ntmps16 (h := ?_)
 refine Z2 ?_
 refine Lq ?_
 refine Z2 ?_
 refine Ak Ag z33 (k := fun r1 hr1 => ?_)
 refine Ik ?_
 refine Hp ?_
 refine Ak Ag z47 (k := fun r2 hr2 => ?_)
 refine Yk ?_
 refine rO ?_
 refine Z74 ?_
 refine Af (Cz (n := 2) runUnderlying24 sizeOf3 0 (Cl.lit (xs := ([a, b] : List Int)) Ba) (gD z4) Kc) (k := ?_)
 refine Af (Ci isAgg3 0 0 (Cl.lit (xs := ([a, b] : List Int)) Ba) (gD z4)) (k := ?_)
 refine Ak Ag z64 (k := fun r3 hr3 => ?_)
 refine C1 ?_
 refine aA ?_
 obtain ⟨Thgl1, fhgl1, hgl1⟩ := hE.v2
 refine Af (Em isAgg93 hgl1) (k := ?_)
 refine AF4 ?_
 refine Bq (args := [_]) (Ac call44) func44 ntmps44 ?_
 refine Nk ?_
 refine sJ ?_
 refine Ao 4 rfl (fun hq2 => ?_) (fun hq2 => ?_)
 rotate_left
 ·refine Ab 2 rfl ?_
  refine Hz ?_
  refine Bd results44 z0 ?_
  refine Z0 ?_
  refine Rk ?_
  refine C2 ?_
  refine Hq ?_
  refine K8 ?_
  refine B5 ?_
  refine Xv ?_
  refine Ib ?_
  obtain ⟨Thgl13, fhgl13, hgl13⟩ := hE.v6
  refine Af (Em isAgg93 hgl13) (k := ?_)
  refine K3 ?_
  refine Va ?_
  obtain ⟨Thgl14, fhgl14, hgl14⟩ := hE.v2
  refine Af (Em isAgg93 hgl14) (k := ?_)
  refine K5 ?_
  refine C3 ?_
  refine Nh ?_
  refine mI ?_
  refine Aa results16 (Bw.tmp rfl z0) (fun w1 hw1 => ?_)
  exact ⟨(rq (hF.neg hq2)), hw1.ext_out⟩
 refine lD ?_
 refine Ot ?_
 refine Bd results44 z0 ?_
 refine Z0 ?_
 refine Bi rfl (fun hq3 => ?_) (fun hq3 => ?_)
 rotate_left
 ·refine Cg ?_
  refine Du ?_
  refine C2 ?_
  refine Hq ?_
  refine K8 ?_
  refine B5 ?_
  refine Xv ?_
  refine Ib ?_
  obtain ⟨Thgl11, fhgl11, hgl11⟩ := hE.v6
  refine Af (Em isAgg93 hgl11) (k := ?_)
  refine K3 ?_
  refine Va ?_
  obtain ⟨Thgl12, fhgl12, hgl12⟩ := hE.v2
  refine Af (Em isAgg93 hgl12) (k := ?_)
  refine K5 ?_
  refine C3 ?_
  refine Nh ?_
  refine mI ?_
  refine Aa results16 (Bw.tmp rfl z0) (fun w1 hw1 => ?_)
  exact ⟨(rq ((hF.pos hq2).neg hq3)), hw1.ext_out⟩
 refine Z2 ?_
 refine Rg ?_
 refine N7 ?_
 refine Hq ?_
 refine L3 ?_
 refine Rk ?_
 refine Jt ?_
 refine It ?_
 refine Cy (args := [(vi (([a, b] : List Int).getD 0 default))]) (Ac call46) (fun w1 hw1 => Qj w1 (n := (([a, b] : List Int).getD 0 default)) (hG := hG.ext hw1.ext_out) (hn := Tt)) (k := ?_)
 have hil_64779 := Fb (n := (([a, b] : List Int).getD 0 default)) z3
 refine Ak Ag z33 (k := fun r4 hr4 => ?_)
 refine Bb (([([99, 104, 97, 108, 108, 101, 110, 103, 101] : An)] : List An) ++ ([(Lib.itoa (([a, b] : List Int).getD 0 default))] : List An)) rfl F9 underlying106 My (Bt.mk (xs := ([([99, 104, 97, 108, 108, 101, 110, 103, 101] : An)] : List An)) rfl rfl My) (qa (qa (qa q0))) (Cl.lit (xs := ([(Lib.itoa (([a, b] : List Int).getD 0 default))] : List An)) My) ⟨by omega, by omega⟩ (n := 1) (m := 1) (k := fun ax1 cx1 Bx1 hox1 => ?_)
 have hal1 : (([([99, 104, 97, 108, 108, 101, 110, 103, 101] : An)] : List An) ++ ([(Lib.itoa (([a, b] : List Int).getD 0 default))] : List An)).length = 1 + 1 := by first | rfl | exact List.length_append | simp
 refine Mj ?_
 refine vF ?_
 refine Af (Cz (n := 2) runUnderlying24 sizeOf3 1 (Cl.lit (xs := ([a, b] : List Int)) Ba) (gD z4) Kc) (k := ?_)
 refine Af (Ci isAgg3 1 0 (Cl.lit (xs := ([a, b] : List Int)) Ba) (gD z4)) (k := ?_)
 refine Ak Ag z64 (k := fun r5 hr5 => ?_)
 refine C1 ?_
 refine aA ?_
 obtain ⟨Thgl4, fhgl4, hgl4⟩ := hE.v2
 refine Af (Em isAgg93 hgl4) (k := ?_)
 refine AF4 ?_
 refine Bq (args := [_]) (Ac call44) func44 ntmps44 ?_
 refine Nk ?_
 refine sJ ?_
 refine Ao 4 rfl (fun hq5 => ?_) (fun hq5 => ?_)
 rotate_left
 ·refine Ab 2 rfl ?_
  refine Hz ?_
  refine Bd results44 z0 ?_
  refine Z0 ?_
  refine Rk ?_
  refine C2 ?_
  refine Hq ?_
  refine K8 ?_
  refine B5 ?_
  refine Xv ?_
  refine Ib ?_
  obtain ⟨Thgl9, fhgl9, hgl9⟩ := hE.v6
  refine Af (Em isAgg93 hgl9) (k := ?_)
  refine K3 ?_
  refine Va ?_
  obtain ⟨Thgl10, fhgl10, hgl10⟩ := hE.v2
  refine Af (Em isAgg93 hgl10) (k := ?_)
  refine K5 ?_
  refine C3 ?_
  refine Nh ?_
  refine mI ?_
  refine Aa results16 (Bw.tmp rfl z0) (fun w1 hw1 => ?_)
  exact ⟨(rq (((hF.pos hq2).pos hq3).neg hq5)), hw1.ext_out⟩
 refine lD ?_
 refine Ot ?_
 refine Bd results44 z0 ?_
 refine Z0 ?_
 refine Bi rfl (fun hq6 => ?_) (fun hq6 => ?_)
 ·refine Cb ?_
  refine Lk ?_
  refine N7 ?_
  refine Hq ?_
  refine L3 ?_
  refine Rk ?_
  refine Jt ?_
  refine It ?_
  refine Cy (args := [(vi (([a, b] : List Int).getD 1 default))]) (Ac call46) (fun w1 hw1 => Qj w1 (n := (([a, b] : List Int).getD 1 default)) (hG := hG.ext hw1.ext_out) (hn := Tt)) (k := ?_)
  have hil_94773 := Fb (n := (([a, b] : List Int).getD 1 default)) z3
  refine Ak Ag z33 (k := fun r6 hr6 => ?_)
  refine Bb ((([([99, 104, 97, 108, 108, 101, 110, 103, 101] : An)] : List An) ++ ([(Lib.itoa (([a, b] : List Int).getD 0 default))] : List An)) ++ ([(Lib.itoa (([a, b] : List Int).getD 1 default))] : List An)) rfl F9 underlying106 My hox1 (qb (qb q0)) (Cl.lit (xs := ([(Lib.itoa (([a, b] : List Int).getD 1 default))] : List An)) My) ⟨by omega, by omega⟩ (n := (([([99, 104, 97, 108, 108, 101, 110, 103, 101] : An)] : List An) ++ ([(Lib.itoa (([a, b] : List Int).getD 0 default))] : List An)).length) (m := 1) (k := fun ax2 cx2 Bx2 hox2 => ?_)
  have hal2 : ((([([99, 104, 97, 108, 108, 101, 110, 103, 101] : An)] : List An) ++ ([(Lib.itoa (([a, b] : List Int).getD 0 default))] : List An)) ++ ([(Lib.itoa (([a, b] : List Int).getD 1 default))] : List An)).length = (([([99, 104, 97, 108, 108, 101, 110, 103, 101] : An)] : List An) ++ ([(Lib.itoa (([a, b] : List Int).getD 0 default))] : List An)).length + 1 := by first | rfl | exact List.length_append | simp
  refine Mj ?_
  refine iK ?_
  refine Z3 ?_
  refine Cy (args := [(vs ax2 (((([([99, 104, 97, 108, 108, 101, 110, 103, 101] : An)] : List An) ++ ([(Lib.itoa (([a, b] : List Int).getD 0 default))] : List An)) ++ ([(Lib.itoa (([a, b] : List Int).getD 1 default))] : List An)).length) cx2), (vt ([32] : An))]) (Ac call48) (fun w1 hw1 => gZ w1 (h_xs := (hox2.slj My) w1 hw1) (xs := ((([([99, 104, 97, 108, 108, 101, 110, 103, 101] : An)] : List An) ++ ([(Lib.itoa (([a, b] : List Int).getD 0 default))] : List An)) ++ ([(Lib.itoa (([a, b] : List Int).getD 1 default))] : List An))) (sep := ([32] : An)) (hc := hox2.le) (hn := Tt) (hl := Nat.le_trans (show (Lib.join ((([([99, 104, 97, 108, 108, 101, 110, 103, 101] : An)] : List An) ++ ([(Lib.itoa (([a, b] : List Int).getD 0 default))] : List An)) ++ ([(Lib.itoa (([a, b] : List Int).getD 1 default))] : List An)) ([32] : An)).length ≤ 100000 by (simp only [List.cons_append, List.nil_append]; rw [jY]; simp only [List.length_cons, List.length_nil]; omega)) (by decide))) (k := ?_)
  have hjl_59522 : (Lib.join ((([([99, 104, 97, 108, 108, 101, 110, 103, 101] : An)] : List An) ++ ([(Lib.itoa (([a, b] : List Int).getD 0 default))] : List An)) ++ ([(Lib.itoa (([a, b] : List Int).getD 1 default))] : List An)) ([32] : An)).length ≤ 100000 := by (simp only [List.cons_append, List.nil_append]; rw [jY]; simp only [List.length_cons, List.length_nil]; omega)
  refine Cy (Ac call47) (fun w1 hw1 => qF w1 (s := (Lib.join ((([([99, 104, 97, 108, 108, 101, 110, 103, 101] : An)] : List An) ++ ([(Lib.itoa (([a, b] : List Int).getD 0 default))] : List An)) ++ ([(Lib.itoa (([a, b] : List Int).getD 1 default))] : List An)) ([32] : An))) (n_s := Ng) (hG := hG.ext hw1.ext_out)) (k := ?_)
  have hsum_34842 := Gx (Lib.join ((([([99, 104, 97, 108, 108, 101, 110, 103, 101] : An)] : List An) ++ ([(Lib.itoa (([a, b] : List Int).getD 0 default))] : List An)) ++ ([(Lib.itoa (([a, b] : List Int).getD 1 default))] : List An)) ([32] : An))
  refine aC ?_
  refine Aa results16 (Bw.tmp rfl z0) (fun w1 hw1 => ?_)
  exact ⟨(rq ((((hF.pos hq2).pos hq3).pos hq5).pos hq6)), hw1.ext_out⟩
 refine Py ?_
 refine C2 ?_
 refine Hq ?_
 refine K8 ?_
 refine B5 ?_
 refine Xv ?_
 refine Ib ?_
 obtain ⟨Thgl7, fhgl7, hgl7⟩ := hE.v6
 refine wF ?_
 refine K3 ?_
 refine Va ?_
 obtain ⟨Thgl8, fhgl8, hgl8⟩ := hE.v2
 refine D5 ?_
 refine K5 ?_
 refine C3 ?_
 refine Nh ?_
 refine mI ?_
 refine Aa results16 (Bw.tmp rfl z0) (fun w1 hw1 => ?_)
 exact ⟨(rq ((((hF.pos hq2).pos hq3).pos hq5).neg hq6)), hw1.ext_out⟩

theorem zJ (w : World) {ea0 : Addr} {ea1 : Addr} {ea2 : Addr} {ea3 : Addr} {ea4 : Addr} {ea5 : Addr} {ea6 : Addr} {ea7 : Addr} {ea8 : Addr} {ea9 : Addr} {ea10 : Addr} {ea11 : Addr} {ea12 : Addr} {ea13 : Addr} {ea14 : Addr} {ea15 : Addr} {key : An} {challenge : An} {name : An} (n_name : name.length ≤ 10000) (hG : Gl w) (hE : Er w ea0 ea1 ea2 ea3 ea4 ea5 ea6 ea7 ea8 ea9 ea10 ea11 ea12 ea13 ea14 ea15) : Ha Tryz.prog 33 [(vt key), (vt challenge), (vt name)] w (Value.tuple [(vt ((Kg key challenge name).1)), (vi ((Kg key challenge name).2))].toArray) := by
 have hF := Is.refl (Kg key challenge name)
 refine enter func33 ntmps33 (h := ?_)
 refine Z2 ?_
 refine Ak Ag z31 (k := fun r1 hr1 => ?_)
 refine Lq ?_
 refine Z3 ?_
 refine Bq (args := [_]) (Ac call78) func78 ntmps78 ?_
 refine Z2 ?_
 refine Ak Ag z31 (k := fun r2 hr2 => ?_)
 refine sD ?_
 obtain ⟨Thgl1, fhgl1, hgl1⟩ := hE.v6
 refine Af (Em isAgg93 hgl1) (k := ?_)
 refine AF4 ?_
 refine Bq (args := [_]) (Ac call129) func129 ntmps129 ?_
 refine Nk ?_
 refine Sj ?_
 refine Cy (Ac call130) (fun w1 hw1 => dU w1 (key := key)) (k := ?_)
 refine Z4 ?_
 refine Bd results129 z0 ?_
 refine Z0 ?_
 refine Dl rfl (fun hq2 => ?_) (fun hq2 => ?_)
 rotate_left
 ·refine Cg ?_
  refine Du ?_
  refine C2 ?_
  refine Z4 ?_
  refine Bd results78 z0 ?_
  refine Iv ?_
  refine Af (aV (u := (Value.iface 400 (.pointer (some ea6)))) (v := Value.nilIface) (b := false) (fun w => by kernel_rfl)) (k := ?_)
  refine Z0 ?_
  refine Rk ?_
  refine fL ?_
  refine Af (bD (u := (Value.iface 400 (.pointer (some ea6)))) (v := Value.nilIface) (b := true) (fun w => by kernel_rfl)) (k := ?_)
  refine Z0 ?_
  refine B5 ?_
  refine Xv ?_
  refine Ib ?_
  obtain ⟨Thgl7, fhgl7, hgl7⟩ := hE.v6
  refine wF ?_
  refine Cy (args := [(Value.iface 400 (.pointer (some ea6))), (Value.iface 400 (.pointer (some ea6)))]) (Ac call81) (fun w1 hw1 => Ih w1) (k := ?_)
  refine Z1 ?_
  refine C3 ?_
  refine Nh ?_
  refine Aa results33 (Bw.tmp rfl z0) (fun w1 hw1 => ?_)
  exact ⟨(rq (hF.f hq2)), hw1.ext_out⟩
 refine Z2 ?_
 refine Rg ?_
 refine N7 ?_
 refine Z4 ?_
 refine Bd results78 z0 ?_
 refine Iv ?_
 refine Af (aV (u := Value.nilIface) (v := Value.nilIface) (b := true) (fun w => by kernel_rfl)) (k := ?_)
 refine Z0 ?_
 refine Ku rfl ?_
 refine Cp ?_
 refine fU ?_
 obtain ⟨Thgl3, fhgl3, hgl3⟩ := hE.v2
 refine sO ?_
 refine AF4 ?_
 refine Bq (args := [_]) (Ac call79) func79 ntmps79 ?_
 refine Nk ?_
 refine rS ?_
 refine wE ?_
 refine Bd results79 z0 ?_
 refine Z0 ?_
 refine Bi rfl (fun hq4 => ?_) (fun hq4 => ?_)
 ·refine Cb ?_
  refine Lk ?_
  refine N7 ?_
  refine Iv ?_
  refine L3 ?_
  refine Rk ?_
  refine Z3 ?_
  refine Sj ?_
  refine Ck ?_
  refine Ak Ag (Ea (l := [_, _]) runUnderlying106 sizeOf9 zeroValue9) (k := fun r3 hr3 => ?_)
  refine Cy (Ac call80) (fun w1 hw1 => AN0 w1 (key := key) (l := ([challenge, name] : List An)) (h_l := (Cl.lit (xs := ([challenge, name] : List An)) My) w1 hw1) (n_l := Ij) (k_l := Ij) (hG := hG.ext hw1.ext_out) (hE := hE.ext hw1.ext_out) (hj := by first | (rw [U0]; simp only [List.length_nil]; omega) | (rw [Pu]; omega))) (k := ?_)
  have hmm_714 := tX key ([challenge, name] : List An)
  refine aC ?_
  refine Aa results33 (Bw.tmp rfl z0) (fun w1 hw1 => ?_)
  exact ⟨(rq ((hF.t hq2).pos hq4)), hw1.ext_out⟩
 refine Py ?_
 refine C2 ?_
 refine Iv ?_
 refine K8 ?_
 refine B5 ?_
 refine Xv ?_
 refine Ib ?_
 obtain ⟨Thgl5, fhgl5, hgl5⟩ := hE.v6
 refine D6 ?_
 refine K3 ?_
 refine Va ?_
 obtain ⟨Thgl6, fhgl6, hgl6⟩ := hE.v2
 refine sP ?_
 refine K5 ?_
 refine C3 ?_
 refine Nh ?_
 refine Aa results33 (Bw.tmp rfl z0) (fun w1 hw1 => ?_)
 exact ⟨(rq ((hF.t hq2).neg hq4)), hw1.ext_out⟩

end Go.Proofs.YtdnjanhdnibkfaaGreatDoor.Jd

namespace Go.Proofs.YtdnjanhdnibkfaaGreatDoor.Jd
open Go.Proofs.Tryz
open Go.Proofs
set_option maxRecDepth 100000
open Go.RowKit Go.Extern.Stop Go.Stop Go.Extern
set_option linter.unusedVariables false
set_option linter.unusedSimpArgs false
theorem AZ8 (t : Value) (w : World) : Calls Tryz.prog 128 #[.nilIface, t] w fun e w' => e = .returned (.bool false) ∧ w' = w := by
  go_enter func128, ntmps128
  go_wp2
  go_ret
  exact ⟨rfl, rfl⟩
theorem V3 (w : World) {t : Value} : Ha Tryz.prog 128 [.nilIface, t] w (.bool false) :=
  (AZ8 t w).mono fun e w' ⟨he, hw⟩ => ⟨he, hw ▸ Below.refl _ _⟩
end Go.Proofs.YtdnjanhdnibkfaaGreatDoor.Jd

namespace Go.Proofs.YtdnjanhdnibkfaaGreatDoor.Jd
open Go.Proofs.Tryz
open Go.Proofs
open Go.RowKit (Below)
set_option maxRecDepth 100000
set_option maxHeartbeats 8000000
set_option linter.unusedVariables false
set_option linter.unusedSimpArgs false
theorem V4 : Bl Tryz.prog 288 0 0 := fun r k w => by simp [Instr.fieldAt, Instr.sureAddr, fieldPlace, Bc]
theorem V5 : Bl Tryz.prog 288 2 2 := fun r k w => by simp [Instr.fieldAt, Instr.sureAddr, fieldPlace, Bc]
theorem G0 (w : World) {r : Int} : Ha Tryz.prog 227 [(vi r)] w (vi (Pq r)) := by
 have hF := Is.refl (Pq r)
 refine enter func227 ntmps227 (h := ?_)
 refine Xv ?_
 refine Lj ?_
 refine Nj ?_
 refine yI ?_
 refine yI ?_
 refine yI ?_
 refine Eu ?_
 refine Eu ?_
 refine Z2 ?_
 refine Af Tp (k := ?_)
 refine Z1 ?_
 refine Bi rfl (fun hq1 => ?_) (fun hq1 => ?_)
 ·refine Cu ?_
  refine Gs ?_
  refine Gs ?_
  refine sK ?_
  refine Jt ?_
  refine Af Rr (k := ?_)
  refine dA ?_
  refine Af Rr (k := ?_)
  refine Mj ?_
  refine kX ?_
  refine Z3 ?_
  refine Af Rr (k := ?_)
  refine Z1 ?_
  refine Cu ?_
  refine sK ?_
  refine Vc ?_
  refine Aa results227 z0 (fun w1 hw1 => ?_)
  exact ⟨(rq (hF.pos hq1)), hw1.ext_out⟩
 refine Yq ?_
 refine Z2 ?_
 refine Af Tp (k := ?_)
 refine Z1 ?_
 refine Bi rfl (fun hq2 => ?_) (fun hq2 => ?_)
 ·refine Cu ?_
  refine Gs ?_
  refine wB ?_
  refine Gs ?_
  refine sK ?_
  refine Jt ?_
  refine Af Rr (k := ?_)
  refine Mj ?_
  refine kX ?_
  refine Z3 ?_
  refine Af Rr (k := ?_)
  refine Z1 ?_
  refine Cu ?_
  refine sK ?_
  refine Vc ?_
  refine Aa results227 z0 (fun w1 hw1 => ?_)
  exact ⟨(rq ((hF.neg hq1).pos hq2)), hw1.ext_out⟩
 refine Ua ?_
 refine Af Tp (k := ?_)
 refine Z1 ?_
 refine Bi rfl (fun hq3 => ?_) (fun hq3 => ?_)
 rotate_left
 ·refine Cg ?_
  refine Du ?_
  refine pA ?_
  refine wB ?_
  refine wB ?_
  refine Gs ?_
  refine sK ?_
  refine Vc ?_
  refine Aa results227 z0 (fun w1 hw1 => ?_)
  exact ⟨(rq (((hF.neg hq1).neg hq2).neg hq3)), hw1.ext_out⟩
 refine Cu ?_
 refine wB ?_
 refine wB ?_
 refine Gs ?_
 refine sK ?_
 refine Z3 ?_
 refine Af Rr (k := ?_)
 refine Z1 ?_
 refine Cu ?_
 refine sK ?_
 refine Vc ?_
 refine Aa results227 z0 (fun w1 hw1 => ?_)
 exact ⟨(rq (((hF.neg hq1).neg hq2).pos hq3)), hw1.ext_out⟩

theorem xO (w : World) {ea0 : Addr} {ea1 : Addr} {ea2 : Addr} {ea3 : Addr} {ea4 : Addr} {ea5 : Addr} {ea6 : Addr} {ea7 : Addr} {ea8 : Addr} {ea9 : Addr} {ea10 : Addr} {ea11 : Addr} {ea12 : Addr} {ea13 : Addr} {ea14 : Addr} {ea15 : Addr} {n_ : Int} (hG : Gl w) (hE : Er w ea0 ea1 ea2 ea3 ea4 ea5 ea6 ea7 ea8 ea9 ea10 ea11 ea12 ea13 ea14 ea15) : Calls Tryz.prog 125 (List.toArray [(vi n_)]) w fun e w2 => ∃ a1 : Option Addr, ∃ c1 : Nat, ∃ B1 : Av, e = .returned (vs a1 ((Fc n_).length) c1) ∧ Ej w w2 B1 ∧ Bt eI 1 3 a1 c1 B1 (Fc n_) ∧ (Fc n_).length ≤ 10 := by
 have hF := Is.refl (Fc n_)
 refine Sq func125 ntmps125 (h := ?_)
 refine Nk ?_
 refine Ak Ag (Cj (l := [_]) zeroValue24) (k := fun r1 hr1 => ?_)
 refine Jr ?_
 refine Z3 ?_
 refine fU ?_
 refine Bq (args := [_]) (Ac call178) func178 ntmps178 ?_
 refine Z2 ?_
 refine Ak Ag z31 (k := fun r2 hr2 => ?_)
 refine aE ?_
 refine Bd results178 z0 ?_
 refine Nj ?_
 refine Fx Ag rfl call226 func226 ntmps226 (fun l3 rD3 rr3 hl3 => ?_)
 refine fR ?_
 obtain ⟨Thgl1, fhgl1, hgl1⟩ := hG.vb
 refine Af (P9 isAgg358 sizeOf358 hgl1) (k := ?_)
 refine lO ?_
 refine Af (La (m := 0) (n := 3) runUnderlying358 sizeOf288 isAgg288) (k := ?_)
 refine Ak Ag z5 (k := fun r4 hr4 => ?_)
 refine Hs ?_
 refine Ak Ag Ll (k := fun r5 hr5 => ?_)
 refine Hr ?_
 refine Ao 12 rfl (fun hq2 => ?_) (fun hq2 => ?_)
 rotate_left
 ·refine Ab 4 rfl ?_
  refine Pe ?_
  refine lH ?_
  refine Af (La (m := 1) (n := 3) runUnderlying358 sizeOf288 isAgg288) (k := ?_)
  refine Ak Ag z5 (k := fun r74 hr74 => ?_)
  refine Hs ?_
  refine Ak Ag Ll (k := fun r75 hr75 => ?_)
  refine Hr ?_
  refine Ao 12 rfl (fun hq22 => ?_) (fun hq22 => ?_)
  rotate_left
  ·refine Ab 4 rfl ?_
   refine Pe ?_
   refine AE1 ?_
   refine Ak Ag z5 (k := fun r106 hr106 => ?_)
   refine Hs ?_
   refine Ak Ag Ll (k := fun r107 hr107 => ?_)
   refine Hr ?_
   refine Ao 12 rfl (fun hq32 => ?_) (fun hq32 => ?_)
   ·exact absurd hq32 hq22
   refine Xf ?_
   refine AE2 ?_
   refine Ak Ag z5 (k := fun r108 hr108 => ?_)
   refine Hs ?_
   refine Ak Ag Ll (k := fun r109 hr109 => ?_)
   refine Hr ?_
   refine Ao 12 rfl (fun hq33 => ?_) (fun hq33 => ?_)
   ·exact absurd hq33 hq22
   refine Xf ?_
   refine AE3 ?_
   refine Ak Ag z5 (k := fun r110 hr110 => ?_)
   refine Hs ?_
   refine Ak Ag Ll (k := fun r111 hr111 => ?_)
   refine Hr ?_
   refine Ao 12 rfl (fun hq34 => ?_) (fun hq34 => ?_)
   ·exact absurd hq34 hq2
   refine Xf ?_
   refine AE4 ?_
   refine Ak Ag z5 (k := fun r112 hr112 => ?_)
   refine Hs ?_
   refine Ak Ag Ll (k := fun r113 hr113 => ?_)
   refine Hr ?_
   refine Ao 12 rfl (fun hq35 => ?_) (fun hq35 => ?_)
   ·exact absurd hq35 hq2
   refine Xf ?_
   refine AE5 ?_
   refine Ak Ag z5 (k := fun r114 hr114 => ?_)
   refine Hs ?_
   refine Ak Ag Ll (k := fun r115 hr115 => ?_)
   refine Hr ?_
   refine Ao 12 rfl (fun hq36 => ?_) (fun hq36 => ?_)
   ·exact absurd hq36 hq2
   refine Xf ?_
   refine AE6 ?_
   refine Ak Ag z5 (k := fun r116 hr116 => ?_)
   refine Hs ?_
   refine Ak Ag Ll (k := fun r117 hr117 => ?_)
   refine Hr ?_
   refine Ao 12 rfl (fun hq37 => ?_) (fun hq37 => ?_)
   ·exact absurd hq37 hq22
   refine Xf ?_
   refine AE7 ?_
   refine Ak Ag z5 (k := fun r118 hr118 => ?_)
   refine Hs ?_
   refine Ak Ag Ll (k := fun r119 hr119 => ?_)
   refine Hr ?_
   refine Ao 12 rfl (fun hq38 => ?_) (fun hq38 => ?_)
   rotate_left
   ·refine Ab 4 rfl ?_
    refine Pe ?_
    refine Zz ?_
    refine rN ?_
    refine Ak Ag z5 (k := fun r126 hr126 => ?_)
    refine Hs ?_
    refine Ak Ag Ll (k := fun r127 hr127 => ?_)
    refine Hr ?_
    refine Ao 12 rfl (fun hq40 => ?_) (fun hq40 => ?_)
    ·exact absurd hq40 hq38
    refine Xf ?_
    refine Zz ?_
    refine fF ?_
    refine Ko ?_
    refine Gh (.inr rfl) results226 (qa (qa (qa (qa (qa (qa (qa (qa (qa (qa (qa (qa (qa (qa (qa (qa (qa (qa (qa (qa q0)))))))))))))))))))) ?_
    refine kX ?_
    refine lJ ?_
    refine Z4 ?_
    refine Dq [rD3] (qa (qa (qa (qa (qa (qa (qa (qa (qa (qa (qa (qa (qa (qa (qa (qa (qa (qa (qa (qa (qa q0))))))))))))))))))))) results125 z0 (fun w1 hw1 => ?_)
    exact ⟨none, 0, [], (rq (((hF.neg hq2).neg hq22).neg hq38)), (hw1.fresh_out.sub Mo), (ro (((hF.neg hq2).neg hq22).neg hq38)), (by rw [(((hF.neg hq2).neg hq22).neg hq38).eq]; first | omega | (simp only [List.length_append, List.length_cons, List.length_nil]; omega) | (simp; omega) | (simp; done))⟩
   refine iF ?_
   refine Ev (vs := [(Value.agg [(vi 9), (vt ([108, 105, 115, 116] : An)), (vi 1)].toArray)]) hl3 (qa (qa (qa (qa (qa (qa (qa (qa (qa (qa (qa (qa (qa (qa (qa (qa (qa (qa q0)))))))))))))))))) Dw ?_
   refine Cp ?_
   refine Ak Ag z5 (k := fun r120 hr120 => ?_)
   refine Pg ?_
   refine Ak Ag z8 (k := fun r121 hr121 => ?_)
   refine Bb ([9] : List Int) (List.nil_append _) Fq underlying24 Ba Bt.nil (List.Perm.refl _) (Cl.lit (xs := ([9] : List Int)) Ba) ⟨by first | omega | (simp only [List.length_append, List.length_cons, List.length_nil]; omega) | (simp; omega) | (simp; done), by first | omega | (simp only [List.length_append, List.length_cons, List.length_nil]; omega) | (simp; omega) | (simp; done)⟩ (n := 0) (m := 1) (k := fun ax22 cx22 Bx22 hox22 => ?_)
   refine Pf ?_
   refine Zz ?_
   refine rN ?_
   refine Ak Ag z5 (k := fun r122 hr122 => ?_)
   refine Hs ?_
   refine Ak Ag Ll (k := fun r123 hr123 => ?_)
   refine Hr ?_
   refine Ao 12 rfl (fun hq39 => ?_) (fun hq39 => ?_)
   rotate_left
   ·exact absurd hq38 hq39
   refine iF ?_
   refine AD1 ?_
   refine Ak Ag z5 (k := fun r124 hr124 => ?_)
   refine Pg ?_
   refine Ak Ag z8 (k := fun r125 hr125 => ?_)
   refine Bb (([9] : List Int) ++ ([10] : List Int)) rfl Fq underlying24 Ba hox22 (qb (qb (qb (qb (qb q0))))) (Cl.lit (xs := ([10] : List Int)) Ba) ⟨by first | omega | (simp only [List.length_append, List.length_cons, List.length_nil]; omega) | (simp; omega) | (simp; done), by first | omega | (simp only [List.length_append, List.length_cons, List.length_nil]; omega) | (simp; omega) | (simp; done)⟩ (n := ([9] : List Int).length) (m := 1) (k := fun ax23 cx23 Bx23 hox23 => ?_)
   have hal23 : (([9] : List Int) ++ ([10] : List Int)).length = ([9] : List Int).length + 1 := by first | rfl | exact List.length_append | simp
   refine Pf ?_
   refine Zz ?_
   refine fF ?_
   refine Ko ?_
   refine Gh (.inr rfl) results226 q0 ?_
   refine kX ?_
   refine lJ ?_
   refine Z4 ?_
   refine Dq [rD3] (qa (qc (qa (qa (qa (qa (qa (qa (qa (qa (qa (qa (qa (qa (qa (qa (qa (qa (qa (qa (qa (qa (qa (qa (qa (qa q0)))))))))))))))))))))))))) results125 z0 (fun w1 hw1 => ?_)
   exact ⟨ax23, cx23, Bx23, (rq (((hF.neg hq2).neg hq22).pos hq38)), (Ax (L := Bx23) (hw1.perm (qb q0)) rfl.symm), (by rw [(((hF.neg hq2).neg hq22).pos hq38).eq]; exact hox23), (by rw [(((hF.neg hq2).neg hq22).pos hq38).eq]; first | omega | (simp only [List.length_append, List.length_cons, List.length_nil]; omega) | (simp; omega) | (simp; done))⟩
  refine iF ?_
  refine Ev (vs := [(Value.agg [(vi 2), (vt ([115, 117, 115, 112, 101, 110, 100] : An)), (vi 2)].toArray)]) hl3 (qa (qa (qa (qa q0)))) Dw ?_
  refine Cp ?_
  refine Ak Ag z5 (k := fun r76 hr76 => ?_)
  refine Pg ?_
  refine Ak Ag z8 (k := fun r77 hr77 => ?_)
  refine Bb ([2] : List Int) (List.nil_append _) Fq underlying24 Ba Bt.nil (List.Perm.refl _) (Cl.lit (xs := ([2] : List Int)) Ba) ⟨by first | omega | (simp only [List.length_append, List.length_cons, List.length_nil]; omega) | (simp; omega) | (simp; done), by first | omega | (simp only [List.length_append, List.length_cons, List.length_nil]; omega) | (simp; omega) | (simp; done)⟩ (n := 0) (m := 1) (k := fun ax16 cx16 Bx16 hox16 => ?_)
  refine Pf ?_
  refine AE1 ?_
  refine Ak Ag z5 (k := fun r78 hr78 => ?_)
  refine Hs ?_
  refine Ak Ag Ll (k := fun r79 hr79 => ?_)
  refine Hr ?_
  refine Ao 12 rfl (fun hq23 => ?_) (fun hq23 => ?_)
  rotate_left
  ·exact absurd hq22 hq23
  refine iF ?_
  refine Ev (vs := [(Value.agg [(vi 3), (vt ([114, 101, 115, 117, 109, 101] : An)), (vi 2)].toArray)]) hl3 (qa (qa q0)) Dw ?_
  refine Cp ?_
  refine Ak Ag z5 (k := fun r80 hr80 => ?_)
  refine Pg ?_
  refine Ak Ag z8 (k := fun r81 hr81 => ?_)
  refine Bb (([2] : List Int) ++ ([3] : List Int)) rfl Fq underlying24 Ba hox16 (qb (qb (qb (qb (qb q0))))) (Cl.lit (xs := ([3] : List Int)) Ba) ⟨by first | omega | (simp only [List.length_append, List.length_cons, List.length_nil]; omega) | (simp; omega) | (simp; done), by first | omega | (simp only [List.length_append, List.length_cons, List.length_nil]; omega) | (simp; omega) | (simp; done)⟩ (n := ([2] : List Int).length) (m := 1) (k := fun ax17 cx17 Bx17 hox17 => ?_)
  have hal17 : (([2] : List Int) ++ ([3] : List Int)).length = ([2] : List Int).length + 1 := by first | rfl | exact List.length_append | simp
  refine Pf ?_
  refine AE2 ?_
  refine Ak Ag z5 (k := fun r82 hr82 => ?_)
  refine Hs ?_
  refine Ak Ag Ll (k := fun r83 hr83 => ?_)
  refine Hr ?_
  refine Ao 12 rfl (fun hq24 => ?_) (fun hq24 => ?_)
  rotate_left
  ·exact absurd hq22 hq24
  refine iF ?_
  refine Ev (vs := [(Value.agg [(vi 4), (vt ([100, 114, 97, 105, 110] : An)), (vi 2)].toArray)]) hl3 (qa (qa q0)) Dw ?_
  refine Cp ?_
  refine Ak Ag z5 (k := fun r84 hr84 => ?_)
  refine Pg ?_
  refine Ak Ag z8 (k := fun r85 hr85 => ?_)
  refine Bb ((([2] : List Int) ++ ([3] : List Int)) ++ ([4] : List Int)) rfl Fq underlying24 Ba hox17 (qb (qb (qb (qb (qb q0))))) (Cl.lit (xs := ([4] : List Int)) Ba) ⟨by first | omega | (simp only [List.length_append, List.length_cons, List.length_nil]; omega) | (simp; omega) | (simp; done), by first | omega | (simp only [List.length_append, List.length_cons, List.length_nil]; omega) | (simp; omega) | (simp; done)⟩ (n := (([2] : List Int) ++ ([3] : List Int)).length) (m := 1) (k := fun ax18 cx18 Bx18 hox18 => ?_)
  have hal18 : ((([2] : List Int) ++ ([3] : List Int)) ++ ([4] : List Int)).length = (([2] : List Int) ++ ([3] : List Int)).length + 1 := by first | rfl | exact List.length_append | simp
  refine Pf ?_
  refine AE3 ?_
  refine Ak Ag z5 (k := fun r86 hr86 => ?_)
  refine Hs ?_
  refine Ak Ag Ll (k := fun r87 hr87 => ?_)
  refine Hr ?_
  refine Ao 12 rfl (fun hq25 => ?_) (fun hq25 => ?_)
  ·exact absurd hq25 hq2
  refine Xf ?_
  refine AE4 ?_
  refine Ak Ag z5 (k := fun r88 hr88 => ?_)
  refine Hs ?_
  refine Ak Ag Ll (k := fun r89 hr89 => ?_)
  refine Hr ?_
  refine Ao 12 rfl (fun hq26 => ?_) (fun hq26 => ?_)
  ·exact absurd hq26 hq2
  refine Xf ?_
  refine AE5 ?_
  refine Ak Ag z5 (k := fun r90 hr90 => ?_)
  refine Hs ?_
  refine Ak Ag Ll (k := fun r91 hr91 => ?_)
  refine Hr ?_
  refine Ao 12 rfl (fun hq27 => ?_) (fun hq27 => ?_)
  ·exact absurd hq27 hq2
  refine Xf ?_
  refine AE6 ?_
  refine Ak Ag z5 (k := fun r92 hr92 => ?_)
  refine Hs ?_
  refine Ak Ag Ll (k := fun r93 hr93 => ?_)
  refine Hr ?_
  refine Ao 12 rfl (fun hq28 => ?_) (fun hq28 => ?_)
  rotate_left
  ·exact absurd hq22 hq28
  refine iF ?_
  refine Ev (vs := [(Value.agg [(vi 8), (vt ([107, 105, 108, 108] : An)), (vi 2)].toArray)]) hl3 (qa (qa (qa (qa (qa (qa (qa (qa q0)))))))) Dw ?_
  refine Cp ?_
  refine Ak Ag z5 (k := fun r94 hr94 => ?_)
  refine Pg ?_
  refine Ak Ag z8 (k := fun r95 hr95 => ?_)
  refine Bb (((([2] : List Int) ++ ([3] : List Int)) ++ ([4] : List Int)) ++ ([8] : List Int)) rfl Fq underlying24 Ba hox18 (qb (qb (qb (qb (qb (qb (qb (qb (qb (qb (qb q0))))))))))) (Cl.lit (xs := ([8] : List Int)) Ba) ⟨by first | omega | (simp only [List.length_append, List.length_cons, List.length_nil]; omega) | (simp; omega) | (simp; done), by first | omega | (simp only [List.length_append, List.length_cons, List.length_nil]; omega) | (simp; omega) | (simp; done)⟩ (n := ((([2] : List Int) ++ ([3] : List Int)) ++ ([4] : List Int)).length) (m := 1) (k := fun ax19 cx19 Bx19 hox19 => ?_)
  have hal19 : (((([2] : List Int) ++ ([3] : List Int)) ++ ([4] : List Int)) ++ ([8] : List Int)).length = ((([2] : List Int) ++ ([3] : List Int)) ++ ([4] : List Int)).length + 1 := by first | rfl | exact List.length_append | simp
  refine Pf ?_
  refine AE7 ?_
  refine Ak Ag z5 (k := fun r96 hr96 => ?_)
  refine Hs ?_
  refine Ak Ag Ll (k := fun r97 hr97 => ?_)
  refine Hr ?_
  refine Ao 12 rfl (fun hq29 => ?_) (fun hq29 => ?_)
  rotate_left
  ·refine Ab 4 rfl ?_
   refine Pe ?_
   refine Zz ?_
   refine rN ?_
   refine Ak Ag z5 (k := fun r104 hr104 => ?_)
   refine Hs ?_
   refine Ak Ag Ll (k := fun r105 hr105 => ?_)
   refine Hr ?_
   refine Ao 12 rfl (fun hq31 => ?_) (fun hq31 => ?_)
   ·exact absurd hq31 hq29
   refine Xf ?_
   refine Zz ?_
   refine fF ?_
   refine Ko ?_
   refine Gh (.inr rfl) results226 (qa (qa (qa (qa q0)))) ?_
   refine kX ?_
   refine lJ ?_
   refine Z4 ?_
   refine Dq [rD3] (qa (qa (qa (qa (qa (qc (qa (qa (qa (qa (qa (qa (qa (qa (qa (qa (qa (qa (qa (qa (qa (qa (qa (qa (qa (qa (qa (qa (qa (qa q0)))))))))))))))))))))))))))))) results125 z0 (fun w1 hw1 => ?_)
   exact ⟨ax19, cx19, Bx19, (rq (((hF.neg hq2).pos hq22).neg hq29)), (Ax (L := Bx19) (hw1.perm (qb (qb (qb (qb (qb q0)))))) rfl.symm), (by rw [(((hF.neg hq2).pos hq22).neg hq29).eq]; exact hox19), (by rw [(((hF.neg hq2).pos hq22).neg hq29).eq]; first | omega | (simp only [List.length_append, List.length_cons, List.length_nil]; omega) | (simp; omega) | (simp; done))⟩
  refine iF ?_
  refine Ev (vs := [(Value.agg [(vi 9), (vt ([108, 105, 115, 116] : An)), (vi 1)].toArray)]) hl3 (qa (qa q0)) Dw ?_
  refine Cp ?_
  refine Ak Ag z5 (k := fun r98 hr98 => ?_)
  refine Pg ?_
  refine Ak Ag z8 (k := fun r99 hr99 => ?_)
  refine Bb ((((([2] : List Int) ++ ([3] : List Int)) ++ ([4] : List Int)) ++ ([8] : List Int)) ++ ([9] : List Int)) rfl Fq underlying24 Ba hox19 (qb (qb (qb (qb (qb q0))))) (Cl.lit (xs := ([9] : List Int)) Ba) ⟨by first | omega | (simp only [List.length_append, List.length_cons, List.length_nil]; omega) | (simp; omega) | (simp; done), by first | omega | (simp only [List.length_append, List.length_cons, List.length_nil]; omega) | (simp; omega) | (simp; done)⟩ (n := (((([2] : List Int) ++ ([3] : List Int)) ++ ([4] : List Int)) ++ ([8] : List Int)).length) (m := 1) (k := fun ax20 cx20 Bx20 hox20 => ?_)
  have hal20 : ((((([2] : List Int) ++ ([3] : List Int)) ++ ([4] : List Int)) ++ ([8] : List Int)) ++ ([9] : List Int)).length = (((([2] : List Int) ++ ([3] : List Int)) ++ ([4] : List Int)) ++ ([8] : List Int)).length + 1 := by first | rfl | exact List.length_append | simp
  refine Pf ?_
  refine Zz ?_
  refine rN ?_
  refine Ak Ag z5 (k := fun r100 hr100 => ?_)
  refine Hs ?_
  refine Ak Ag Ll (k := fun r101 hr101 => ?_)
  refine Hr ?_
  refine Ao 12 rfl (fun hq30 => ?_) (fun hq30 => ?_)
  rotate_left
  ·exact absurd hq29 hq30
  refine iF ?_
  refine AD1 ?_
  refine Ak Ag z5 (k := fun r102 hr102 => ?_)
  refine Pg ?_
  refine Ak Ag z8 (k := fun r103 hr103 => ?_)
  refine Bb (((((([2] : List Int) ++ ([3] : List Int)) ++ ([4] : List Int)) ++ ([8] : List Int)) ++ ([9] : List Int)) ++ ([10] : List Int)) rfl Fq underlying24 Ba hox20 (qb (qb (qb (qb (qb q0))))) (Cl.lit (xs := ([10] : List Int)) Ba) ⟨by first | omega | (simp only [List.length_append, List.length_cons, List.length_nil]; omega) | (simp; omega) | (simp; done), by first | omega | (simp only [List.length_append, List.length_cons, List.length_nil]; omega) | (simp; omega) | (simp; done)⟩ (n := ((((([2] : List Int) ++ ([3] : List Int)) ++ ([4] : List Int)) ++ ([8] : List Int)) ++ ([9] : List Int)).length) (m := 1) (k := fun ax21 cx21 Bx21 hox21 => ?_)
  have hal21 : (((((([2] : List Int) ++ ([3] : List Int)) ++ ([4] : List Int)) ++ ([8] : List Int)) ++ ([9] : List Int)) ++ ([10] : List Int)).length = ((((([2] : List Int) ++ ([3] : List Int)) ++ ([4] : List Int)) ++ ([8] : List Int)) ++ ([9] : List Int)).length + 1 := by first | rfl | exact List.length_append | simp
  refine Pf ?_
  refine Zz ?_
  refine fF ?_
  refine Ko ?_
  refine Gh (.inr rfl) results226 q0 ?_
  refine kX ?_
  refine lJ ?_
  refine Z4 ?_
  refine Dq [rD3] (qa (qc (qa (qa (qa (qa (qa (qa (qa (qa (qa (qa (qa (qa (qa (qa (qa (qa (qa (qa (qa (qa (qa (qa (qa (qa (qa (qa (qa (qa (qa (qa (qa (qa q0)))))))))))))))))))))))))))))))))) results125 z0 (fun w1 hw1 => ?_)
  exact ⟨ax21, cx21, Bx21, (rq (((hF.neg hq2).pos hq22).pos hq29)), (Ax (L := Bx21) (hw1.perm (qb q0)) rfl.symm), (by rw [(((hF.neg hq2).pos hq22).pos hq29).eq]; exact hox21), (by rw [(((hF.neg hq2).pos hq22).pos hq29).eq]; first | omega | (simp only [List.length_append, List.length_cons, List.length_nil]; omega) | (simp; omega) | (simp; done))⟩
 refine iF ?_
 refine Ev (vs := [(Value.agg [(vi 1), (vt ([99, 114, 101, 97, 116, 101] : An)), (vi 4)].toArray)]) hl3 (qa (qa q0)) Dw ?_
 refine Cp ?_
 refine Ak Ag z5 (k := fun r6 hr6 => ?_)
 refine Pg ?_
 refine Ak Ag z8 (k := fun r7 hr7 => ?_)
 refine Bb ([1] : List Int) (List.nil_append _) Fq underlying24 Ba Bt.nil (List.Perm.refl _) (Cl.lit (xs := ([1] : List Int)) Ba) ⟨by first | omega | (simp only [List.length_append, List.length_cons, List.length_nil]; omega) | (simp; omega) | (simp; done), by first | omega | (simp only [List.length_append, List.length_cons, List.length_nil]; omega) | (simp; omega) | (simp; done)⟩ (n := 0) (m := 1) (k := fun ax1 cx1 Bx1 hox1 => ?_)
 refine Pf ?_
 refine lH ?_
 refine Af (La (m := 1) (n := 3) runUnderlying358 sizeOf288 isAgg288) (k := ?_)
 refine Ak Ag z5 (k := fun r8 hr8 => ?_)
 refine Hs ?_
 refine Ak Ag Ll (k := fun r9 hr9 => ?_)
 refine Hr ?_
 refine Ao 12 rfl (fun hq3 => ?_) (fun hq3 => ?_)
 rotate_left
 ·refine Ab 4 rfl ?_
  refine Pe ?_
  refine AE1 ?_
  refine Ak Ag z5 (k := fun r46 hr46 => ?_)
  refine Hs ?_
  refine Ak Ag Ll (k := fun r47 hr47 => ?_)
  refine Hr ?_
  refine Ao 12 rfl (fun hq13 => ?_) (fun hq13 => ?_)
  ·exact absurd hq13 hq3
  refine Xf ?_
  refine AE2 ?_
  refine Ak Ag z5 (k := fun r48 hr48 => ?_)
  refine Hs ?_
  refine Ak Ag Ll (k := fun r49 hr49 => ?_)
  refine Hr ?_
  refine Ao 12 rfl (fun hq14 => ?_) (fun hq14 => ?_)
  ·exact absurd hq14 hq3
  refine Xf ?_
  refine AE3 ?_
  refine Ak Ag z5 (k := fun r50 hr50 => ?_)
  refine Hs ?_
  refine Ak Ag Ll (k := fun r51 hr51 => ?_)
  refine Hr ?_
  refine Ao 12 rfl (fun hq15 => ?_) (fun hq15 => ?_)
  rotate_left
  ·exact absurd hq2 hq15
  refine iF ?_
  refine Ev (vs := [(Value.agg [(vi 5), (vt ([100, 101, 108, 101, 116, 101] : An)), (vi 4)].toArray)]) hl3 (qa (qa (qa (qa (qa (qa (qa (qa q0)))))))) Dw ?_
  refine Cp ?_
  refine Ak Ag z5 (k := fun r52 hr52 => ?_)
  refine Pg ?_
  refine Ak Ag z8 (k := fun r53 hr53 => ?_)
  refine Bb (([1] : List Int) ++ ([5] : List Int)) rfl Fq underlying24 Ba hox1 (qb (qb (qb (qb (qb (qb (qb (qb (qb (qb (qb q0))))))))))) (Cl.lit (xs := ([5] : List Int)) Ba) ⟨by first | omega | (simp only [List.length_append, List.length_cons, List.length_nil]; omega) | (simp; omega) | (simp; done), by first | omega | (simp only [List.length_append, List.length_cons, List.length_nil]; omega) | (simp; omega) | (simp; done)⟩ (n := ([1] : List Int).length) (m := 1) (k := fun ax11 cx11 Bx11 hox11 => ?_)
  have hal11 : (([1] : List Int) ++ ([5] : List Int)).length = ([1] : List Int).length + 1 := by first | rfl | exact List.length_append | simp
  refine Pf ?_
  refine AE4 ?_
  refine Ak Ag z5 (k := fun r54 hr54 => ?_)
  refine Hs ?_
  refine Ak Ag Ll (k := fun r55 hr55 => ?_)
  refine Hr ?_
  refine Ao 12 rfl (fun hq16 => ?_) (fun hq16 => ?_)
  rotate_left
  ·exact absurd hq2 hq16
  refine iF ?_
  refine Ev (vs := [(Value.agg [(vi 6), (vt ([114, 111, 116, 97, 116, 101] : An)), (vi 4)].toArray)]) hl3 (qa (qa q0)) Dw ?_
  refine Cp ?_
  refine Ak Ag z5 (k := fun r56 hr56 => ?_)
  refine Pg ?_
  refine Ak Ag z8 (k := fun r57 hr57 => ?_)
  refine Bb ((([1] : List Int) ++ ([5] : List Int)) ++ ([6] : List Int)) rfl Fq underlying24 Ba hox11 (qb (qb (qb (qb (qb q0))))) (Cl.lit (xs := ([6] : List Int)) Ba) ⟨by first | omega | (simp only [List.length_append, List.length_cons, List.length_nil]; omega) | (simp; omega) | (simp; done), by first | omega | (simp only [List.length_append, List.length_cons, List.length_nil]; omega) | (simp; omega) | (simp; done)⟩ (n := (([1] : List Int) ++ ([5] : List Int)).length) (m := 1) (k := fun ax12 cx12 Bx12 hox12 => ?_)
  have hal12 : ((([1] : List Int) ++ ([5] : List Int)) ++ ([6] : List Int)).length = (([1] : List Int) ++ ([5] : List Int)).length + 1 := by first | rfl | exact List.length_append | simp
  refine Pf ?_
  refine AE5 ?_
  refine Ak Ag z5 (k := fun r58 hr58 => ?_)
  refine Hs ?_
  refine Ak Ag Ll (k := fun r59 hr59 => ?_)
  refine Hr ?_
  refine Ao 12 rfl (fun hq17 => ?_) (fun hq17 => ?_)
  rotate_left
  ·exact absurd hq2 hq17
  refine iF ?_
  refine Ev (vs := [(Value.agg [(vi 7), (vt ([97, 99, 108] : An)), (vi 4)].toArray)]) hl3 (qa (qa q0)) Dw ?_
  refine Cp ?_
  refine Ak Ag z5 (k := fun r60 hr60 => ?_)
  refine Pg ?_
  refine Ak Ag z8 (k := fun r61 hr61 => ?_)
  refine Bb (((([1] : List Int) ++ ([5] : List Int)) ++ ([6] : List Int)) ++ ([7] : List Int)) rfl Fq underlying24 Ba hox12 (qb (qb (qb (qb (qb q0))))) (Cl.lit (xs := ([7] : List Int)) Ba) ⟨by first | omega | (simp only [List.length_append, List.length_cons, List.length_nil]; omega) | (simp; omega) | (simp; done), by first | omega | (simp only [List.length_append, List.length_cons, List.length_nil]; omega) | (simp; omega) | (simp; done)⟩ (n := ((([1] : List Int) ++ ([5] : List Int)) ++ ([6] : List Int)).length) (m := 1) (k := fun ax13 cx13 Bx13 hox13 => ?_)
  have hal13 : (((([1] : List Int) ++ ([5] : List Int)) ++ ([6] : List Int)) ++ ([7] : List Int)).length = ((([1] : List Int) ++ ([5] : List Int)) ++ ([6] : List Int)).length + 1 := by first | rfl | exact List.length_append | simp
  refine Pf ?_
  refine AE6 ?_
  refine Ak Ag z5 (k := fun r62 hr62 => ?_)
  refine Hs ?_
  refine Ak Ag Ll (k := fun r63 hr63 => ?_)
  refine Hr ?_
  refine Ao 12 rfl (fun hq18 => ?_) (fun hq18 => ?_)
  ·exact absurd hq18 hq3
  refine Xf ?_
  refine AE7 ?_
  refine Ak Ag z5 (k := fun r64 hr64 => ?_)
  refine Hs ?_
  refine Ak Ag Ll (k := fun r65 hr65 => ?_)
  refine Hr ?_
  refine Ao 12 rfl (fun hq19 => ?_) (fun hq19 => ?_)
  rotate_left
  ·refine Ab 4 rfl ?_
   refine Pe ?_
   refine Zz ?_
   refine rN ?_
   refine Ak Ag z5 (k := fun r72 hr72 => ?_)
   refine Hs ?_
   refine Ak Ag Ll (k := fun r73 hr73 => ?_)
   refine Hr ?_
   refine Ao 12 rfl (fun hq21 => ?_) (fun hq21 => ?_)
   ·exact absurd hq21 hq19
   refine Xf ?_
   refine Zz ?_
   refine fF ?_
   refine Ko ?_
   refine Gh (.inr rfl) results226 (qa (qa (qa (qa (qa (qa q0)))))) ?_
   refine kX ?_
   refine lJ ?_
   refine Z4 ?_
   refine Dq [rD3] (qa (qa (qa (qa (qa (qa (qa (qc (qa (qa (qa (qa (qa (qa (qa (qa (qa (qa (qa (qa (qa (qa (qa (qa (qa (qa (qa (qa (qa (qa q0)))))))))))))))))))))))))))))) results125 z0 (fun w1 hw1 => ?_)
   exact ⟨ax13, cx13, Bx13, (rq (((hF.pos hq2).neg hq3).neg hq19)), (Ax (L := Bx13) (hw1.perm (qb (qb (qb (qb (qb (qb (qb q0)))))))) rfl.symm), (by rw [(((hF.pos hq2).neg hq3).neg hq19).eq]; exact hox13), (by rw [(((hF.pos hq2).neg hq3).neg hq19).eq]; first | omega | (simp only [List.length_append, List.length_cons, List.length_nil]; omega) | (simp; omega) | (simp; done))⟩
  refine iF ?_
  refine Ev (vs := [(Value.agg [(vi 9), (vt ([108, 105, 115, 116] : An)), (vi 1)].toArray)]) hl3 (qa (qa (qa (qa q0)))) Dw ?_
  refine Cp ?_
  refine Ak Ag z5 (k := fun r66 hr66 => ?_)
  refine Pg ?_
  refine Ak Ag z8 (k := fun r67 hr67 => ?_)
  refine Bb ((((([1] : List Int) ++ ([5] : List Int)) ++ ([6] : List Int)) ++ ([7] : List Int)) ++ ([9] : List Int)) rfl Fq underlying24 Ba hox13 (qb (qb (qb (qb (qb (qb (qb q0))))))) (Cl.lit (xs := ([9] : List Int)) Ba) ⟨by first | omega | (simp only [List.length_append, List.length_cons, List.length_nil]; omega) | (simp; omega) | (simp; done), by first | omega | (simp only [List.length_append, List.length_cons, List.length_nil]; omega) | (simp; omega) | (simp; done)⟩ (n := (((([1] : List Int) ++ ([5] : List Int)) ++ ([6] : List Int)) ++ ([7] : List Int)).length) (m := 1) (k := fun ax14 cx14 Bx14 hox14 => ?_)
  have hal14 : ((((([1] : List Int) ++ ([5] : List Int)) ++ ([6] : List Int)) ++ ([7] : List Int)) ++ ([9] : List Int)).length = (((([1] : List Int) ++ ([5] : List Int)) ++ ([6] : List Int)) ++ ([7] : List Int)).length + 1 := by first | rfl | exact List.length_append | simp
  refine Pf ?_
  refine Zz ?_
  refine rN ?_
  refine Ak Ag z5 (k := fun r68 hr68 => ?_)
  refine Hs ?_
  refine Ak Ag Ll (k := fun r69 hr69 => ?_)
  refine Hr ?_
  refine Ao 12 rfl (fun hq20 => ?_) (fun hq20 => ?_)
  rotate_left
  ·exact absurd hq19 hq20
  refine iF ?_
  refine AD1 ?_
  refine Ak Ag z5 (k := fun r70 hr70 => ?_)
  refine Pg ?_
  refine Ak Ag z8 (k := fun r71 hr71 => ?_)
  refine Bb (((((([1] : List Int) ++ ([5] : List Int)) ++ ([6] : List Int)) ++ ([7] : List Int)) ++ ([9] : List Int)) ++ ([10] : List Int)) rfl Fq underlying24 Ba hox14 (qb (qb (qb (qb (qb q0))))) (Cl.lit (xs := ([10] : List Int)) Ba) ⟨by first | omega | (simp only [List.length_append, List.length_cons, List.length_nil]; omega) | (simp; omega) | (simp; done), by first | omega | (simp only [List.length_append, List.length_cons, List.length_nil]; omega) | (simp; omega) | (simp; done)⟩ (n := ((((([1] : List Int) ++ ([5] : List Int)) ++ ([6] : List Int)) ++ ([7] : List Int)) ++ ([9] : List Int)).length) (m := 1) (k := fun ax15 cx15 Bx15 hox15 => ?_)
  have hal15 : (((((([1] : List Int) ++ ([5] : List Int)) ++ ([6] : List Int)) ++ ([7] : List Int)) ++ ([9] : List Int)) ++ ([10] : List Int)).length = ((((([1] : List Int) ++ ([5] : List Int)) ++ ([6] : List Int)) ++ ([7] : List Int)) ++ ([9] : List Int)).length + 1 := by first | rfl | exact List.length_append | simp
  refine Pf ?_
  refine Zz ?_
  refine fF ?_
  refine Ko ?_
  refine Gh (.inr rfl) results226 q0 ?_
  refine kX ?_
  refine lJ ?_
  refine Z4 ?_
  refine Dq [rD3] (qa (qc (qa (qa (qa (qa (qa (qa (qa (qa (qa (qa (qa (qa (qa (qa (qa (qa (qa (qa (qa (qa (qa (qa (qa (qa (qa (qa (qa (qa (qa (qa (qa (qa q0)))))))))))))))))))))))))))))))))) results125 z0 (fun w1 hw1 => ?_)
  exact ⟨ax15, cx15, Bx15, (rq (((hF.pos hq2).neg hq3).pos hq19)), (Ax (L := Bx15) (hw1.perm (qb q0)) rfl.symm), (by rw [(((hF.pos hq2).neg hq3).pos hq19).eq]; exact hox15), (by rw [(((hF.pos hq2).neg hq3).pos hq19).eq]; first | omega | (simp only [List.length_append, List.length_cons, List.length_nil]; omega) | (simp; omega) | (simp; done))⟩
 refine iF ?_
 refine Ev (vs := [(Value.agg [(vi 2), (vt ([115, 117, 115, 112, 101, 110, 100] : An)), (vi 2)].toArray)]) hl3 (qa (qa q0)) Dw ?_
 refine Cp ?_
 refine Ak Ag z5 (k := fun r10 hr10 => ?_)
 refine Pg ?_
 refine Ak Ag z8 (k := fun r11 hr11 => ?_)
 refine Bb (([1] : List Int) ++ ([2] : List Int)) rfl Fq underlying24 Ba hox1 (qb (qb (qb (qb (qb q0))))) (Cl.lit (xs := ([2] : List Int)) Ba) ⟨by first | omega | (simp only [List.length_append, List.length_cons, List.length_nil]; omega) | (simp; omega) | (simp; done), by first | omega | (simp only [List.length_append, List.length_cons, List.length_nil]; omega) | (simp; omega) | (simp; done)⟩ (n := ([1] : List Int).length) (m := 1) (k := fun ax2 cx2 Bx2 hox2 => ?_)
 have hal2 : (([1] : List Int) ++ ([2] : List Int)).length = ([1] : List Int).length + 1 := by first | rfl | exact List.length_append | simp
 refine Pf ?_
 refine AE1 ?_
 refine Ak Ag z5 (k := fun r12 hr12 => ?_)
 refine Hs ?_
 refine Ak Ag Ll (k := fun r13 hr13 => ?_)
 refine Hr ?_
 refine Ao 12 rfl (fun hq4 => ?_) (fun hq4 => ?_)
 rotate_left
 ·exact absurd hq3 hq4
 refine iF ?_
 refine Ev (vs := [(Value.agg [(vi 3), (vt ([114, 101, 115, 117, 109, 101] : An)), (vi 2)].toArray)]) hl3 (qa (qa q0)) Dw ?_
 refine Cp ?_
 refine Ak Ag z5 (k := fun r14 hr14 => ?_)
 refine Pg ?_
 refine Ak Ag z8 (k := fun r15 hr15 => ?_)
 refine Bb ((([1] : List Int) ++ ([2] : List Int)) ++ ([3] : List Int)) rfl Fq underlying24 Ba hox2 (qb (qb (qb (qb (qb q0))))) (Cl.lit (xs := ([3] : List Int)) Ba) ⟨by first | omega | (simp only [List.length_append, List.length_cons, List.length_nil]; omega) | (simp; omega) | (simp; done), by first | omega | (simp only [List.length_append, List.length_cons, List.length_nil]; omega) | (simp; omega) | (simp; done)⟩ (n := (([1] : List Int) ++ ([2] : List Int)).length) (m := 1) (k := fun ax3 cx3 Bx3 hox3 => ?_)
 have hal3 : ((([1] : List Int) ++ ([2] : List Int)) ++ ([3] : List Int)).length = (([1] : List Int) ++ ([2] : List Int)).length + 1 := by first | rfl | exact List.length_append | simp
 refine Pf ?_
 refine AE2 ?_
 refine Ak Ag z5 (k := fun r16 hr16 => ?_)
 refine Hs ?_
 refine Ak Ag Ll (k := fun r17 hr17 => ?_)
 refine Hr ?_
 refine Ao 12 rfl (fun hq5 => ?_) (fun hq5 => ?_)
 rotate_left
 ·exact absurd hq3 hq5
 refine iF ?_
 refine Ev (vs := [(Value.agg [(vi 4), (vt ([100, 114, 97, 105, 110] : An)), (vi 2)].toArray)]) hl3 (qa (qa q0)) Dw ?_
 refine Cp ?_
 refine Ak Ag z5 (k := fun r18 hr18 => ?_)
 refine Pg ?_
 refine Ak Ag z8 (k := fun r19 hr19 => ?_)
 refine Bb (((([1] : List Int) ++ ([2] : List Int)) ++ ([3] : List Int)) ++ ([4] : List Int)) rfl Fq underlying24 Ba hox3 (qb (qb (qb (qb (qb q0))))) (Cl.lit (xs := ([4] : List Int)) Ba) ⟨by first | omega | (simp only [List.length_append, List.length_cons, List.length_nil]; omega) | (simp; omega) | (simp; done), by first | omega | (simp only [List.length_append, List.length_cons, List.length_nil]; omega) | (simp; omega) | (simp; done)⟩ (n := ((([1] : List Int) ++ ([2] : List Int)) ++ ([3] : List Int)).length) (m := 1) (k := fun ax4 cx4 Bx4 hox4 => ?_)
 have hal4 : (((([1] : List Int) ++ ([2] : List Int)) ++ ([3] : List Int)) ++ ([4] : List Int)).length = ((([1] : List Int) ++ ([2] : List Int)) ++ ([3] : List Int)).length + 1 := by first | rfl | exact List.length_append | simp
 refine Pf ?_
 refine AE3 ?_
 refine Ak Ag z5 (k := fun r20 hr20 => ?_)
 refine Hs ?_
 refine Ak Ag Ll (k := fun r21 hr21 => ?_)
 refine Hr ?_
 refine Ao 12 rfl (fun hq6 => ?_) (fun hq6 => ?_)
 rotate_left
 ·exact absurd hq2 hq6
 refine iF ?_
 refine Ev (vs := [(Value.agg [(vi 5), (vt ([100, 101, 108, 101, 116, 101] : An)), (vi 4)].toArray)]) hl3 (qa (qa q0)) Dw ?_
 refine Cp ?_
 refine Ak Ag z5 (k := fun r22 hr22 => ?_)
 refine Pg ?_
 refine Ak Ag z8 (k := fun r23 hr23 => ?_)
 refine Bb ((((([1] : List Int) ++ ([2] : List Int)) ++ ([3] : List Int)) ++ ([4] : List Int)) ++ ([5] : List Int)) rfl Fq underlying24 Ba hox4 (qb (qb (qb (qb (qb q0))))) (Cl.lit (xs := ([5] : List Int)) Ba) ⟨by first | omega | (simp only [List.length_append, List.length_cons, List.length_nil]; omega) | (simp; omega) | (simp; done), by first | omega | (simp only [List.length_append, List.length_cons, List.length_nil]; omega) | (simp; omega) | (simp; done)⟩ (n := (((([1] : List Int) ++ ([2] : List Int)) ++ ([3] : List Int)) ++ ([4] : List Int)).length) (m := 1) (k := fun ax5 cx5 Bx5 hox5 => ?_)
 have hal5 : ((((([1] : List Int) ++ ([2] : List Int)) ++ ([3] : List Int)) ++ ([4] : List Int)) ++ ([5] : List Int)).length = (((([1] : List Int) ++ ([2] : List Int)) ++ ([3] : List Int)) ++ ([4] : List Int)).length + 1 := by first | rfl | exact List.length_append | simp
 refine Pf ?_
 refine AE4 ?_
 refine Ak Ag z5 (k := fun r24 hr24 => ?_)
 refine Hs ?_
 refine Ak Ag Ll (k := fun r25 hr25 => ?_)
 refine Hr ?_
 refine Ao 12 rfl (fun hq7 => ?_) (fun hq7 => ?_)
 rotate_left
 ·exact absurd hq2 hq7
 refine iF ?_
 refine Ev (vs := [(Value.agg [(vi 6), (vt ([114, 111, 116, 97, 116, 101] : An)), (vi 4)].toArray)]) hl3 (qa (qa q0)) Dw ?_
 refine Cp ?_
 refine Ak Ag z5 (k := fun r26 hr26 => ?_)
 refine Pg ?_
 refine Ak Ag z8 (k := fun r27 hr27 => ?_)
 refine Bb (((((([1] : List Int) ++ ([2] : List Int)) ++ ([3] : List Int)) ++ ([4] : List Int)) ++ ([5] : List Int)) ++ ([6] : List Int)) rfl Fq underlying24 Ba hox5 (qb (qb (qb (qb (qb q0))))) (Cl.lit (xs := ([6] : List Int)) Ba) ⟨by first | omega | (simp only [List.length_append, List.length_cons, List.length_nil]; omega) | (simp; omega) | (simp; done), by first | omega | (simp only [List.length_append, List.length_cons, List.length_nil]; omega) | (simp; omega) | (simp; done)⟩ (n := ((((([1] : List Int) ++ ([2] : List Int)) ++ ([3] : List Int)) ++ ([4] : List Int)) ++ ([5] : List Int)).length) (m := 1) (k := fun ax6 cx6 Bx6 hox6 => ?_)
 have hal6 : (((((([1] : List Int) ++ ([2] : List Int)) ++ ([3] : List Int)) ++ ([4] : List Int)) ++ ([5] : List Int)) ++ ([6] : List Int)).length = ((((([1] : List Int) ++ ([2] : List Int)) ++ ([3] : List Int)) ++ ([4] : List Int)) ++ ([5] : List Int)).length + 1 := by first | rfl | exact List.length_append | simp
 refine Pf ?_
 refine AE5 ?_
 refine Ak Ag z5 (k := fun r28 hr28 => ?_)
 refine Hs ?_
 refine Ak Ag Ll (k := fun r29 hr29 => ?_)
 refine Hr ?_
 refine Ao 12 rfl (fun hq8 => ?_) (fun hq8 => ?_)
 rotate_left
 ·exact absurd hq2 hq8
 refine iF ?_
 refine Ev (vs := [(Value.agg [(vi 7), (vt ([97, 99, 108] : An)), (vi 4)].toArray)]) hl3 (qa (qa q0)) Dw ?_
 refine Cp ?_
 refine Ak Ag z5 (k := fun r30 hr30 => ?_)
 refine Pg ?_
 refine Ak Ag z8 (k := fun r31 hr31 => ?_)
 refine Bb ((((((([1] : List Int) ++ ([2] : List Int)) ++ ([3] : List Int)) ++ ([4] : List Int)) ++ ([5] : List Int)) ++ ([6] : List Int)) ++ ([7] : List Int)) rfl Fq underlying24 Ba hox6 (qb (qb (qb (qb (qb q0))))) (Cl.lit (xs := ([7] : List Int)) Ba) ⟨by first | omega | (simp only [List.length_append, List.length_cons, List.length_nil]; omega) | (simp; omega) | (simp; done), by first | omega | (simp only [List.length_append, List.length_cons, List.length_nil]; omega) | (simp; omega) | (simp; done)⟩ (n := (((((([1] : List Int) ++ ([2] : List Int)) ++ ([3] : List Int)) ++ ([4] : List Int)) ++ ([5] : List Int)) ++ ([6] : List Int)).length) (m := 1) (k := fun ax7 cx7 Bx7 hox7 => ?_)
 have hal7 : ((((((([1] : List Int) ++ ([2] : List Int)) ++ ([3] : List Int)) ++ ([4] : List Int)) ++ ([5] : List Int)) ++ ([6] : List Int)) ++ ([7] : List Int)).length = (((((([1] : List Int) ++ ([2] : List Int)) ++ ([3] : List Int)) ++ ([4] : List Int)) ++ ([5] : List Int)) ++ ([6] : List Int)).length + 1 := by first | rfl | exact List.length_append | simp
 refine Pf ?_
 refine AE6 ?_
 refine Ak Ag z5 (k := fun r32 hr32 => ?_)
 refine Hs ?_
 refine Ak Ag Ll (k := fun r33 hr33 => ?_)
 refine Hr ?_
 refine Ao 12 rfl (fun hq9 => ?_) (fun hq9 => ?_)
 rotate_left
 ·exact absurd hq3 hq9
 refine iF ?_
 refine Ev (vs := [(Value.agg [(vi 8), (vt ([107, 105, 108, 108] : An)), (vi 2)].toArray)]) hl3 (qa (qa q0)) Dw ?_
 refine Cp ?_
 refine Ak Ag z5 (k := fun r34 hr34 => ?_)
 refine Pg ?_
 refine Ak Ag z8 (k := fun r35 hr35 => ?_)
 refine Bb (((((((([1] : List Int) ++ ([2] : List Int)) ++ ([3] : List Int)) ++ ([4] : List Int)) ++ ([5] : List Int)) ++ ([6] : List Int)) ++ ([7] : List Int)) ++ ([8] : List Int)) rfl Fq underlying24 Ba hox7 (qb (qb (qb (qb (qb q0))))) (Cl.lit (xs := ([8] : List Int)) Ba) ⟨by first | omega | (simp only [List.length_append, List.length_cons, List.length_nil]; omega) | (simp; omega) | (simp; done), by first | omega | (simp only [List.length_append, List.length_cons, List.length_nil]; omega) | (simp; omega) | (simp; done)⟩ (n := ((((((([1] : List Int) ++ ([2] : List Int)) ++ ([3] : List Int)) ++ ([4] : List Int)) ++ ([5] : List Int)) ++ ([6] : List Int)) ++ ([7] : List Int)).length) (m := 1) (k := fun ax8 cx8 Bx8 hox8 => ?_)
 have hal8 : (((((((([1] : List Int) ++ ([2] : List Int)) ++ ([3] : List Int)) ++ ([4] : List Int)) ++ ([5] : List Int)) ++ ([6] : List Int)) ++ ([7] : List Int)) ++ ([8] : List Int)).length = ((((((([1] : List Int) ++ ([2] : List Int)) ++ ([3] : List Int)) ++ ([4] : List Int)) ++ ([5] : List Int)) ++ ([6] : List Int)) ++ ([7] : List Int)).length + 1 := by first | rfl | exact List.length_append | simp
 refine Pf ?_
 refine AE7 ?_
 refine Ak Ag z5 (k := fun r36 hr36 => ?_)
 refine Hs ?_
 refine Ak Ag Ll (k := fun r37 hr37 => ?_)
 refine Hr ?_
 refine Ao 12 rfl (fun hq10 => ?_) (fun hq10 => ?_)
 rotate_left
 ·refine Ab 4 rfl ?_
  refine Pe ?_
  refine Zz ?_
  refine rN ?_
  refine Ak Ag z5 (k := fun r44 hr44 => ?_)
  refine Hs ?_
  refine Ak Ag Ll (k := fun r45 hr45 => ?_)
  refine Hr ?_
  refine Ao 12 rfl (fun hq12 => ?_) (fun hq12 => ?_)
  ·exact absurd hq12 hq10
  refine Xf ?_
  refine Zz ?_
  refine fF ?_
  refine Ko ?_
  refine Gh (.inr rfl) results226 (qa (qa (qa (qa q0)))) ?_
  refine kX ?_
  refine lJ ?_
  refine Z4 ?_
  refine Dq [rD3] (qa (qa (qa (qa (qa (qc (qa (qa (qa (qa (qa (qa (qa (qa (qa (qa (qa (qa (qa (qa (qa (qa (qa (qa (qa (qa (qa (qa (qa (qa (qa (qa (qa (qa (qa (qa (qa (qa q0)))))))))))))))))))))))))))))))))))))) results125 z0 (fun w1 hw1 => ?_)
  exact ⟨ax8, cx8, Bx8, (rq (((hF.pos hq2).pos hq3).neg hq10)), (Ax (L := Bx8) (hw1.perm (qb (qb (qb (qb (qb q0)))))) rfl.symm), (by rw [(((hF.pos hq2).pos hq3).neg hq10).eq]; exact hox8), (by rw [(((hF.pos hq2).pos hq3).neg hq10).eq]; first | omega | (simp only [List.length_append, List.length_cons, List.length_nil]; omega) | (simp; omega) | (simp; done))⟩
 refine iF ?_
 refine Ev (vs := [(Value.agg [(vi 9), (vt ([108, 105, 115, 116] : An)), (vi 1)].toArray)]) hl3 (qa (qa q0)) Dw ?_
 refine Cp ?_
 refine Ak Ag z5 (k := fun r38 hr38 => ?_)
 refine Pg ?_
 refine Ak Ag z8 (k := fun r39 hr39 => ?_)
 refine Bb ((((((((([1] : List Int) ++ ([2] : List Int)) ++ ([3] : List Int)) ++ ([4] : List Int)) ++ ([5] : List Int)) ++ ([6] : List Int)) ++ ([7] : List Int)) ++ ([8] : List Int)) ++ ([9] : List Int)) rfl Fq underlying24 Ba hox8 (qb (qb (qb (qb (qb q0))))) (Cl.lit (xs := ([9] : List Int)) Ba) ⟨by first | omega | (simp only [List.length_append, List.length_cons, List.length_nil]; omega) | (simp; omega) | (simp; done), by first | omega | (simp only [List.length_append, List.length_cons, List.length_nil]; omega) | (simp; omega) | (simp; done)⟩ (n := (((((((([1] : List Int) ++ ([2] : List Int)) ++ ([3] : List Int)) ++ ([4] : List Int)) ++ ([5] : List Int)) ++ ([6] : List Int)) ++ ([7] : List Int)) ++ ([8] : List Int)).length) (m := 1) (k := fun ax9 cx9 Bx9 hox9 => ?_)
 have hal9 : ((((((((([1] : List Int) ++ ([2] : List Int)) ++ ([3] : List Int)) ++ ([4] : List Int)) ++ ([5] : List Int)) ++ ([6] : List Int)) ++ ([7] : List Int)) ++ ([8] : List Int)) ++ ([9] : List Int)).length = (((((((([1] : List Int) ++ ([2] : List Int)) ++ ([3] : List Int)) ++ ([4] : List Int)) ++ ([5] : List Int)) ++ ([6] : List Int)) ++ ([7] : List Int)) ++ ([8] : List Int)).length + 1 := by first | rfl | exact List.length_append | simp
 refine Pf ?_
 refine Zz ?_
 refine rN ?_
 refine Ak Ag z5 (k := fun r40 hr40 => ?_)
 refine Hs ?_
 refine Ak Ag Ll (k := fun r41 hr41 => ?_)
 refine Hr ?_
 refine Ao 12 rfl (fun hq11 => ?_) (fun hq11 => ?_)
 rotate_left
 ·exact absurd hq10 hq11
 refine iF ?_
 refine AD1 ?_
 refine Ak Ag z5 (k := fun r42 hr42 => ?_)
 refine Pg ?_
 refine Ak Ag z8 (k := fun r43 hr43 => ?_)
 refine Bb (((((((((([1] : List Int) ++ ([2] : List Int)) ++ ([3] : List Int)) ++ ([4] : List Int)) ++ ([5] : List Int)) ++ ([6] : List Int)) ++ ([7] : List Int)) ++ ([8] : List Int)) ++ ([9] : List Int)) ++ ([10] : List Int)) rfl Fq underlying24 Ba hox9 (qb (qb (qb (qb (qb q0))))) (Cl.lit (xs := ([10] : List Int)) Ba) ⟨by first | omega | (simp only [List.length_append, List.length_cons, List.length_nil]; omega) | (simp; omega) | (simp; done), by first | omega | (simp only [List.length_append, List.length_cons, List.length_nil]; omega) | (simp; omega) | (simp; done)⟩ (n := ((((((((([1] : List Int) ++ ([2] : List Int)) ++ ([3] : List Int)) ++ ([4] : List Int)) ++ ([5] : List Int)) ++ ([6] : List Int)) ++ ([7] : List Int)) ++ ([8] : List Int)) ++ ([9] : List Int)).length) (m := 1) (k := fun ax10 cx10 Bx10 hox10 => ?_)
 have hal10 : (((((((((([1] : List Int) ++ ([2] : List Int)) ++ ([3] : List Int)) ++ ([4] : List Int)) ++ ([5] : List Int)) ++ ([6] : List Int)) ++ ([7] : List Int)) ++ ([8] : List Int)) ++ ([9] : List Int)) ++ ([10] : List Int)).length = ((((((((([1] : List Int) ++ ([2] : List Int)) ++ ([3] : List Int)) ++ ([4] : List Int)) ++ ([5] : List Int)) ++ ([6] : List Int)) ++ ([7] : List Int)) ++ ([8] : List Int)) ++ ([9] : List Int)).length + 1 := by first | rfl | exact List.length_append | simp
 refine Pf ?_
 refine Zz ?_
 refine fF ?_
 refine Ko ?_
 refine Gh (.inr rfl) results226 q0 ?_
 refine kX ?_
 refine lJ ?_
 refine Z4 ?_
 refine Dq [rD3] (qa (qc (qa (qa (qa (qa (qa (qa (qa (qa (qa (qa (qa (qa (qa (qa (qa (qa (qa (qa (qa (qa (qa (qa (qa (qa (qa (qa (qa (qa (qa (qa (qa (qa (qa (qa (qa (qa (qa (qa (qa (qa q0)))))))))))))))))))))))))))))))))))))))))) results125 z0 (fun w1 hw1 => ?_)
 exact ⟨ax10, cx10, Bx10, (rq (((hF.pos hq2).pos hq3).pos hq10)), (Ax (L := Bx10) (hw1.perm (qb q0)) rfl.symm), (by rw [(((hF.pos hq2).pos hq3).pos hq10).eq]; exact hox10), (by rw [(((hF.pos hq2).pos hq3).pos hq10).eq]; first | omega | (simp only [List.length_append, List.length_cons, List.length_nil]; omega) | (simp; omega) | (simp; done))⟩

theorem V6 (w : World) {ea0 : Addr} {ea1 : Addr} {ea2 : Addr} {ea3 : Addr} {ea4 : Addr} {ea5 : Addr} {ea6 : Addr} {ea7 : Addr} {ea8 : Addr} {ea9 : Addr} {ea10 : Addr} {ea11 : Addr} {ea12 : Addr} {ea13 : Addr} {ea14 : Addr} {ea15 : Addr} {n_ : Int} {v : Int} (hG : Gl w) (hE : Er w ea0 ea1 ea2 ea3 ea4 ea5 ea6 ea7 ea8 ea9 ea10 ea11 ea12 ea13 ea14 ea15) : Ha Tryz.prog 75 [(vi n_), (vi v)] w (Value.bool (mZ n_ v)) := by
 have hF := Is.refl (mZ n_ v)
 refine enter func75 ntmps75 (h := ?_)
 refine Lj ?_
 refine Kq (Ac call125) (fun w1 hw1 => xO w1 (n_ := n_) (hG := hG.ext hw1.ext_out) (hE := hE.ext hw1.ext_out)) (k := ?_)
 rintro w1_1 e1_1 w2_1 hw1_1 ⟨a1_1, c1_1, B1_1, he_1, hf_1, ho1_1, hl1_1⟩
 refine ⟨_, _, he_1, hw1_1.fresh hf_1, ?_⟩
 refine Yk ?_
 refine Jj (σ1 := Nat) (σ2 := Nat) (fun n_2 x_1 => (B1_1 ++ [])) (fun n_2 x_1 => [(1, (vi v)), (4, (Value.bool false)), (8, (vs a1_1 ((Fc n_).length) c1_1)), (9, (vi ((((Fc n_).length) : Nat) : Int))), (10, (vi ((x_1 : Nat) : Int)))]) (fun n_2 x_1 => ((Fc n_).length) - x_1 < n_2 ∧ Is (Rv n_ v (((Fc n_).length) + 1) 0) (Rv n_ v n_2 x_1)) (fun n_2 x_1 => n_2) (((Fc n_).length) + 1) 0 ?_ se (List.Perm.refl _) ?_
 ·exact ⟨Nat.lt_succ_self _, Is.refl _⟩
 ·rintro (_ | n_2) x_1 ⟨hm4, hF3⟩
  ·omega
  refine Zy ?_
  refine Bi rfl (fun hq1 => ?_) (fun hq1 => ?_)
  rotate_left
  ·refine Cu ?_
   refine Ia ?_
   refine Yp ?_
   refine Aa results75 z0 (fun w1 hw1 => ?_)
   exact ⟨(rq (hF.ok1 (hF3.neg hq1))), hw1.ext_out⟩
  refine dD ?_
  refine Af (Cz (n := (Fc n_).length) runUnderlying24 sizeOf3 x_1 (ho1_1.slj Ba) (gD z4) Kc) (k := ?_)
  refine Af (Ci isAgg3 x_1 0 (ho1_1.slj Ba) (gD z4)) (k := ?_)
  refine Ji ?_
  refine iP ?_
  refine Bi rfl (fun hq2 => ?_) (fun hq2 => ?_)
  rotate_left
  ·refine Cg ?_
   refine Ux ?_
   exact Hu n_2 (x_1 + 1) ⟨by omega, ((hF3.pos hq1).neg hq2)⟩ (Nat.lt_succ_self _) se (List.Perm.refl _)
  refine Z2 ?_
  refine Ri ?_
  refine Aa results75 z0 (fun w1 hw1 => ?_)
  exact ⟨(rq (hF.er1 ((hF3.pos hq1).pos hq2))), hw1.ext_out⟩

end Go.Proofs.YtdnjanhdnibkfaaGreatDoor.Jd

namespace Go.Proofs.YtdnjanhdnibkfaaGreatDoor.Jd
open Go.Proofs.Tryz
open Go.Proofs
open Go.RowKit (Below)
set_option maxRecDepth 100000
set_option maxHeartbeats 8000000
set_option linter.unusedVariables false
set_option linter.unusedSimpArgs false
theorem zK : Bl Tryz.prog 41 0 0 := fun r k w => by simp [Instr.fieldAt, Instr.sureAddr, fieldPlace, Bc]
theorem hX : Bl Tryz.prog 41 1 1 := fun r k w => by simp [Instr.fieldAt, Instr.sureAddr, fieldPlace, Bc]
theorem qG : Bl Tryz.prog 80 0 0 := fun r k w => by simp [Instr.fieldAt, Instr.sureAddr, fieldPlace, Bc]
theorem qH : Bl Tryz.prog 80 1 1 := fun r k w => by simp [Instr.fieldAt, Instr.sureAddr, fieldPlace, Bc]
theorem qI : Bl Tryz.prog 82 0 0 := fun r k w => by simp [Instr.fieldAt, Instr.sureAddr, fieldPlace, Bc]
theorem qJ : Bl Tryz.prog 82 1 1 := fun r k w => by simp [Instr.fieldAt, Instr.sureAddr, fieldPlace, Bc]
theorem V7 : Bl Tryz.prog 120 0 0 := fun r k w => by simp [Instr.fieldAt, Instr.sureAddr, fieldPlace, Bc]
theorem kA : Bl Tryz.prog 190 0 0 := fun r k w => by simp [Instr.fieldAt, Instr.sureAddr, fieldPlace, Bc]
theorem Vw : Bl Tryz.prog 193 0 0 := fun r k w => by simp [Instr.fieldAt, Instr.sureAddr, fieldPlace, Bc]
theorem uH : Bl Tryz.prog 193 1 1 := fun r k w => by simp [Instr.fieldAt, Instr.sureAddr, fieldPlace, Bc]
theorem kB : Bl Tryz.prog 193 2 5 := fun r k w => by simp [Instr.fieldAt, Instr.sureAddr, fieldPlace, Bc]
theorem Vx : Bl Tryz.prog 346 0 0 := fun r k w => by simp [Instr.fieldAt, Instr.sureAddr, fieldPlace, Bc]
theorem bV : Bl Tryz.prog 351 0 0 := fun r k w => by simp [Instr.fieldAt, Instr.sureAddr, fieldPlace, Bc]
theorem BJ7 : Fh Tryz.prog 41 [(0, 1), (1, 1)] := ⟨_, fun w => runUnderlying41 w, fun w => by simp⟩
theorem AZ9 : Fh Tryz.prog 120 [(0, 1)] := ⟨_, fun w => runUnderlying120 w, fun w => by simp⟩
theorem BA0 : Fh Tryz.prog 190 [(0, 1)] := ⟨_, fun w => runUnderlying190 w, fun w => by simp⟩
theorem BA1 : Fh Tryz.prog 193 [(0, 1), (1, 4), (5, 1)] := ⟨_, fun w => runUnderlying193 w, fun w => by simp⟩
theorem BA2 : Fh Tryz.prog 346 [(0, 2)] := ⟨_, fun w => runUnderlying346 w, fun w => by simp⟩
theorem BA3 : Fh Tryz.prog 351 [(0, 2)] := ⟨_, fun w => runUnderlying351 w, fun w => by simp⟩
theorem uI (w : World) {s : An} : Ha Tryz.prog 255 [(vt s)] w (Value.bool (jX s)) := by
 have hF := Is.refl (jX s)
 refine enter func255 ntmps255 (h := ?_)
 refine Lj ?_
 refine Ak Ag (jO runUnderlying9) (k := fun r1 hr1 => ?_)
 refine Nj ?_
 refine Jj (σ1 := Nat) (σ2 := Nat) (fun n_2 x_1 => ((r1, Obj.stringIter (bs s) x_1) :: [])) (fun n_2 x_1 => [(2, (Value.bool false)), (6, (Value.pointer (some ⟨r1, 0, none⟩)))]) (fun n_2 x_1 => s.length - x_1 < n_2 ∧ Is (Qm s (s.length + 1) 0) (Qm s n_2 x_1)) (fun n_2 x_1 => n_2) (s.length + 1) 0 ?_ se (List.Perm.refl _) ?_
 ·exact ⟨Nat.lt_succ_self _, Is.refl _⟩
 ·rintro (_ | n_2) x_1 ⟨hm4, hF3⟩
  ·omega
  refine Z2 ?_
  refine pU q0 (fun hq1 => ?_) (fun hq1 => ?_)
  rotate_left
  ·refine Af Ju (k := ?_)
   refine Jr ?_
   refine kZ ?_
   refine Ia ?_
   refine Yp ?_
   refine Aa results255 z0 (fun w1 hw1 => ?_)
   exact ⟨(rq (hF.ok1 (hF3.neg hq1))), hw1.ext_out⟩
  have hrhq1 := wW s x_1
  have hphq1 := pT s x_1
  refine Af Ju (k := ?_)
  refine Jr ?_
  refine Z31 ?_
  refine Gr ?_
  refine Z2 ?_
  refine Af Ju (k := ?_)
  refine Hq ?_
  refine aB ?_
  refine Ao 12 rfl (fun hq2 => ?_) (fun hq2 => ?_)
  ·refine Ab 2 rfl ?_
   refine Uy ?_
   refine Z4 ?_
   refine Rm ?_
   refine Z50 ?_
   refine Aa results255 z0 (fun w1 hw1 => ?_)
   exact ⟨(rq (hF.er1 ((hF3.pos hq1).pos hq2))), hw1.ext_out⟩
  refine sF ?_
  refine Pe ?_
  refine Bi rfl (fun hq3 => ?_) (fun hq3 => ?_)
  rotate_left
  ·refine Cg ?_
   refine Fr ?_
   exact Hu n_2 (x_1 + (dK s x_1).2) ⟨by omega, (((hF3.pos hq1).neg hq2).neg hq3)⟩ (Nat.lt_succ_self _) se (List.Perm.refl _)
  refine Yp ?_
  refine Rm ?_
  refine Z50 ?_
  refine Aa results255 z0 (fun w1 hw1 => ?_)
  exact ⟨(rq (hF.er1 (((hF3.pos hq1).neg hq2).pos hq3))), hw1.ext_out⟩

theorem G1 (w : World) {s : An} : Ha Tryz.prog 225 [(vt s)] w (Value.bool (xH s)) := by
 have hF := Is.refl (xH s)
 refine enter func225 ntmps225 (h := ?_)
 refine Mq ?_
 refine iW ?_
 refine lK ?_
 refine Ao 6 rfl (fun hq1 => ?_) (fun hq1 => ?_)
 rotate_left
 ·refine Ab 2 rfl ?_
  refine Hz ?_
  refine Aa results225 z0 (fun w1 hw1 => ?_)
  exact ⟨(rq (hF.neg hq1)), hw1.ext_out⟩
 refine El ?_
 refine Kj (Ac call255) (fun w1 hw1 => uI w1 (s := s)) (k := ?_)
 refine Ot ?_
 refine Aa results225 z0 (fun w1 hw1 => ?_)
 exact ⟨(rq (hF.pos hq1)), hw1.ext_out⟩

theorem dV (w : World) {a : Int} : Ha Tryz.prog 164 [(vi a)] w (Value.bool (Za a)) := by
 have hF := Is.refl (Za a)
 refine enter func164 ntmps164 (h := ?_)
 refine Mq ?_
 refine Af Qg (k := ?_)
 refine Ck ?_
 refine Ao 5 rfl (fun hq1 => ?_) (fun hq1 => ?_)
 rotate_left
 ·refine Ab 2 rfl ?_
  refine Hz ?_
  refine Aa results164 z0 (fun w1 hw1 => ?_)
  exact ⟨(rq (hF.neg hq1)), hw1.ext_out⟩
 refine El ?_
 refine Ar Lm (k := ?_)
 refine Ot ?_
 refine Aa results164 z0 (fun w1 hw1 => ?_)
 exact ⟨(rq (hF.pos hq1)), hw1.ext_out⟩

theorem uJ (w : World) {p : Js} (hb : 0 ≤ p.bits ∧ p.bits ≤ 32) : Ha Tryz.prog 253 [(Value.agg [(vi p.addr), (vi p.bits)].toArray)] w (vi (zE p)) := by
 have hF := Is.refl (zE p)
 refine enter func253 ntmps253 (h := ?_)
 refine Z2 ?_
 refine Ak Ag rB (k := fun r1 hr1 => ?_)
 refine Kt ?_
 refine Af (Al Vx) (k := ?_)
 refine Af (Al qH) (k := ?_)
 refine AI2 ?_
 refine Af wU (k := ?_)
 refine Af (mM (h := by (have := U3 (bits := p.bits) z3; simp only [tV] at this; omega))) (k := ?_)
 refine Z4 ?_
 refine Aa results253 z0 (fun w1 hw1 => ?_)
 exact ⟨(rq hF), hw1.ext_out⟩

theorem G2 (w : World) {p : Js} : Ha Tryz.prog 214 [(Value.agg [(vi p.addr), (vi p.bits)].toArray)] w (Value.bool (dQ p)) := by
 have hF := Is.refl (dQ p)
 refine enter func214 ntmps214 (h := ?_)
 refine Z2 ?_
 refine Ak Ag rB (k := fun r1 hr1 => ?_)
 refine Kt ?_
 refine Af (Al Vx) (k := ?_)
 refine Af (Al qH) (k := ?_)
 refine sJ ?_
 refine Ao 7 rfl (fun hq1 => ?_) (fun hq1 => ?_)
 rotate_left
 ·refine Ab 4 rfl ?_
  refine Xg ?_
  refine Hz ?_
  refine Aa results214 z0 (fun w1 hw1 => ?_)
  exact ⟨(rq (hF.neg hq1)), hw1.ext_out⟩
 refine Ar (Al Vx) (k := ?_)
 refine Ar (Al qH) (k := ?_)
 refine lD ?_
 refine Jh ?_
 refine Ao 13 rfl (fun hq2 => ?_) (fun hq2 => ?_)
 rotate_left
 ·refine Ab 4 rfl ?_
  refine Hz ?_
  refine Aa results214 z0 (fun w1 hw1 => ?_)
  exact ⟨(rq ((hF.pos hq1).neg hq2)), hw1.ext_out⟩
 refine Ar (Al Vx) (k := ?_)
 refine Ar (Al qG) (k := ?_)
 refine Qt ?_
 refine Kj (Ac call164) (fun w1 hw1 => dV w1 (a := p.addr)) (k := ?_)
 refine Ot ?_
 refine Aa results214 z0 (fun w1 hw1 => ?_)
 exact ⟨(rq ((hF.pos hq1).pos hq2)), hw1.ext_out⟩

theorem V8 (w : World) {p : Js} (hb : 0 ≤ p.bits ∧ p.bits ≤ 32) : Ha Tryz.prog 215 [(Value.agg [(vi p.addr), (vi p.bits)].toArray)] w (Value.bool (T9 p)) := by
 have hF := Is.refl (T9 p)
 refine enter func215 ntmps215 (h := ?_)
 refine Z2 ?_
 refine Ak Ag rB (k := fun r1 hr1 => ?_)
 refine Ik ?_
 refine Eh mixed 8 [(true, 0), (true, 1), (true, 2), (true, 3), (false, 4), (true, 5), (true, 6), (true, 7)] z2 ?_
 refine Be (Al Vx) (k := ?_)
 refine Be (Al qG) (k := ?_)
 refine Yr ?_
 refine Be (Ch isAgg346 sizeOf346) (k := ?_)
 refine Yv (Ac call253) (fun w1 hw1 => uJ w1 (p := p) (hb := Ng)) (k := ?_)
 refine Be Nn (k := ?_)
 refine Be Tp (k := ?_)
 refine Z83 ?_
 refine Aa results215 z0 (fun w1 hw1 => ?_)
 exact ⟨(rq hF), hw1.ext_out⟩

theorem nG (w : World) {p : Js} : Ha Tryz.prog 166 [(Value.agg [(vi p.addr), (vi p.bits)].toArray)] w (Value.bool (dR p)) := by
 have hF := Is.refl (dR p)
 refine enter func166 ntmps166 (h := ?_)
 refine Z2 ?_
 refine Ak Ag rB (k := fun r1 hr1 => ?_)
 refine Ik ?_
 refine Z2 ?_
 refine Ak Ag (Ea (l := [_, _]) runUnderlying347 sizeOf344 zeroValue344) (k := fun r2 hr2 => ?_)
 refine Af (Fg runUnderlying347) (k := ?_)
 refine lO ?_
 refine Af (Ei runUnderlying347 sizeOf344 0) (k := ?_)
 refine Af (Bm isAgg344) (k := ?_)
 refine Hq ?_
 refine AV8 ?_
 refine Cy (Ac call214) (fun w1 hw1 => G2 w1 (p := p)) (k := ?_)
 refine Rf ?_
 refine Dl rfl (fun hq1 => ?_) (fun hq1 => ?_)
 ·refine Cb ?_
  refine Cp ?_
  refine Ri ?_
  refine Aa results166 z0 (fun w1 hw1 => ?_)
  exact ⟨(rq (hF.t hq1)), hw1.ext_out⟩
 have hfhq1 := uB J8
 refine Vb ?_
 refine Af (Ei runUnderlying347 sizeOf344 1) (k := ?_)
 refine Af (Bm isAgg344) (k := ?_)
 refine Hq ?_
 refine AV8 ?_
 refine Cy (Ac call215) (fun w1 hw1 => V8 w1 (p := p) (hb := Ng)) (k := ?_)
 refine Rf ?_
 refine Dl rfl (fun hq2 => ?_) (fun hq2 => ?_)
 ·refine Cb ?_
  refine Cp ?_
  refine Ri ?_
  refine Aa results166 z0 (fun w1 hw1 => ?_)
  exact ⟨(rq ((hF.f hq1).t hq2)), hw1.ext_out⟩
 refine cY ?_
 refine Aa results166 z0 (fun w1 hw1 => ?_)
 exact ⟨(rq ((hF.f hq1).f hq2)), hw1.ext_out⟩

theorem AN1 (w : World) {p : Js} {a : Int} : Ha Tryz.prog 221 [(Value.agg [(vi p.addr), (vi p.bits)].toArray), (vi a)] w (Value.bool (AZ3 p a)) := by
 have hF := Is.refl (AZ3 p a)
 refine enter func221 ntmps221 (h := ?_)
 refine Z2 ?_
 refine Ak Ag rB (k := fun r1 hr1 => ?_)
 refine sD ?_
 refine Ik ?_
 refine Eh mixed 15 [(true, 0), (false, 1), (true, 2), (true, 3), (false, 4), (true, 5), (true, 6), (true, 7), (true, 8), (true, 10), (true, 11), (false, 9), (true, 12), (true, 13), (true, 14)] z2 ?_
 refine Be (Ch isAgg80 sizeOf80) (k := ?_)
 refine Yv (Ac call166) (fun w1 hw1 => nG w1 (p := p)) (k := ?_)
 refine Fo ?_
 refine Fp 9 rfl (fun hq1 => ?_) (fun hq1 => ?_)
 rotate_left
 ·refine Ay 2 rfl ?_
  refine oI ?_
  refine Ay 6 rfl ?_
  refine Ks ?_
  refine Aa results221 z0 (fun w1 hw1 => ?_)
  exact ⟨(rq (hF.f hq1)), hw1.ext_out⟩
 have hfhq1 := uC hq1
 refine Ht ?_
 refine Ms (Ac call164) (fun w1 hw1 => dV w1 (a := a)) (k := ?_)
 refine eJ ?_
 refine Fp 13 rfl (fun hq2 => ?_) (fun hq2 => ?_)
 rotate_left
 ·refine Ay 6 rfl ?_
  refine Ks ?_
  refine Aa results221 z0 (fun w1 hw1 => ?_)
  exact ⟨(rq ((hF.t hq1).f hq2)), hw1.ext_out⟩
 have hfhq2 := bO hq2
 refine Ht ?_
 refine Ht ?_
 refine Bu (Al qG) (k := ?_)
 refine lQ ?_
 refine gS (args := [_, _]) (Ac call254) func254 ntmps254 ?_
 refine Mq ?_
 refine AV8 ?_
 refine Cy (Ac call253) (fun w1 hw1 => uJ w1 (p := p) (hb := Ng)) (k := ?_)
 refine Af E5 (k := ?_)
 refine Z4 ?_
 refine Mx _ _ results254 z0 (vp (List.Perm.refl _) nE) z37 ?_
 refine fT ?_
 refine rK ?_
 refine Aa results221 z0 (fun w1 hw1 => ?_)
 exact ⟨(rq ((hF.t hq1).t hq2)), hw1.ext_out⟩

theorem G3 (w : World) {ea0 : Addr} {ea1 : Addr} {ea2 : Addr} {ea3 : Addr} {ea4 : Addr} {ea5 : Addr} {ea6 : Addr} {ea7 : Addr} {ea8 : Addr} {ea9 : Addr} {ea10 : Addr} {ea11 : Addr} {ea12 : Addr} {ea13 : Addr} {ea14 : Addr} {ea15 : Addr} {a : Int} (hG : Gl w) (hE : Er w ea0 ea1 ea2 ea3 ea4 ea5 ea6 ea7 ea8 ea9 ea10 ea11 ea12 ea13 ea14 ea15) : Ha Tryz.prog 107 [(vi a)] w (Value.tuple [(vt ((Md a).1)), (vi ((Md a).2))].toArray) := by
 have hF := Is.refl (Md a)
 refine Sq func107 ntmps107 (h := ?_)
 refine Z2 ?_
 refine D4 ?_
 refine Cy (Ac call164) (fun w1 hw1 => dV w1 (a := a)) (k := ?_)
 refine Rf ?_
 refine Dl rfl (fun hq1 => ?_) (fun hq1 => ?_)
 ·refine Cb ?_
  refine Cp ?_
  refine Nh ?_
  refine Dq [] (List.Perm.refl _) results107 (Bw.tmp rfl z0) (fun w1 hw1 => ?_)
  exact ⟨(rq (hF.t hq1)), hw1.ext_out⟩
 have hfhq1 := bO J8
 refine Ua ?_
 refine Ak Ag (Cj (l := [_]) zeroValue106) (k := fun r1 hr1 => ?_)
 refine Jr ?_
 refine Z3 ?_
 refine Bq (args := [_]) (Ac call165) func165 ntmps165 ?_
 refine Z2 ?_
 refine Ak Ag z31 (k := fun r2 hr2 => ?_)
 refine aE ?_
 refine Bd results165 z0 ?_
 refine Nj ?_
 refine Fx Ag rfl call213 func213 ntmps213 (fun l3 rD3 rr3 hl3 => ?_)
 refine M5 ?_
 refine iQ ?_
 refine jM ?_
 refine AF1 ?_
 refine iN ?_
 refine lF ?_
 refine Af Qy (k := ?_)
 refine Af Nn (k := ?_)
 refine Ly (vs := [(vi (Cq .i64 (Ae .i64 a 24) 255))]) hl3 q0 Dw ?_
 refine Cp ?_
 refine Mj ?_
 refine cV ?_
 refine Eh mixed 5 [(true, 0), (true, 1), (false, 2), (false, 3), (false, 4)] z2 ?_
 refine Be (Bm isAgg106) (k := ?_)
 refine Fo ?_
 have hbb := Vt (a := a) z3
 refine Yv (args := [(vi (Cq .i64 (Ae .i64 a 24) 255))]) (Ac call46) (fun w1 hw1 => Qj w1 (n := (Cq .i64 (Ae .i64 a 24) 255)) (hG := hG.ext hw1.ext_out) (hn := Tt)) (k := ?_)
 have hil_84351 := Fb (n := (Cq .i64 (Ae .i64 a 24) 255)) z3
 refine Hg Ag z33 (k := fun r4 hr4 => ?_)
 refine De ([(Lib.itoa (Cq .i64 (Ae .i64 a 24) 255))] : List An) (List.nil_append _) F9 underlying106 My Bt.nil (List.Perm.refl _) (Cl.lit (xs := ([(Lib.itoa (Cq .i64 (Ae .i64 a 24) 255))] : List An)) My) ⟨by first | omega | (simp; done) | (simp; omega), by first | omega | (simp; done) | (simp; omega)⟩ (n := 0) (m := 1) (k := fun ax1 cx1 Bx1 hox1 => ?_)
 refine AH7 ?_
 refine D3 ?_
 refine Rf ?_
 refine Zz ?_
 refine cS ?_
 refine fP ?_
 refine iN ?_
 refine lF ?_
 refine Af Qy (k := ?_)
 refine Af Nn (k := ?_)
 refine Ly (vs := [(vi (Cq .i64 (Ae .i64 a 16) 255))]) hl3 q0 Dw ?_
 refine Cp ?_
 refine Mj ?_
 refine cV ?_
 refine AV1 ?_
 refine Fo ?_
 have hbb := Vt (a := a) z3
 refine Yv (args := [(vi (Cq .i64 (Ae .i64 a 16) 255))]) (Ac call46) (fun w1 hw1 => Qj w1 (n := (Cq .i64 (Ae .i64 a 16) 255)) (hG := hG.ext hw1.ext_out) (hn := Tt)) (k := ?_)
 have hil_16277 := Fb (n := (Cq .i64 (Ae .i64 a 16) 255)) z3
 refine Hg Ag z33 (k := fun r5 hr5 => ?_)
 refine De (([(Lib.itoa (Cq .i64 (Ae .i64 a 24) 255))] : List An) ++ ([(Lib.itoa (Cq .i64 (Ae .i64 a 16) 255))] : List An)) rfl F9 underlying106 My hox1 q0 (Cl.lit (xs := ([(Lib.itoa (Cq .i64 (Ae .i64 a 16) 255))] : List An)) My) ⟨by first | omega | (simp; done) | (simp; omega), by first | omega | (simp; done) | (simp; omega)⟩ (n := ([(Lib.itoa (Cq .i64 (Ae .i64 a 24) 255))] : List An).length) (m := 1) (k := fun ax3 cx3 Bx3 hox3 => ?_)
 have hal3 : (([(Lib.itoa (Cq .i64 (Ae .i64 a 24) 255))] : List An) ++ ([(Lib.itoa (Cq .i64 (Ae .i64 a 16) 255))] : List An)).length = ([(Lib.itoa (Cq .i64 (Ae .i64 a 24) 255))] : List An).length + 1 := by first | rfl | exact List.length_append | simp
 refine AH7 ?_
 refine D3 ?_
 refine Rf ?_
 refine Zz ?_
 refine cS ?_
 refine fP ?_
 refine iN ?_
 refine lF ?_
 refine Af Qy (k := ?_)
 refine Af Nn (k := ?_)
 refine Ly (vs := [(vi (Cq .i64 (Ae .i64 a 8) 255))]) hl3 q0 Dw ?_
 refine Cp ?_
 refine Mj ?_
 refine cV ?_
 refine AV1 ?_
 refine Fo ?_
 have hbb := Vt (a := a) z3
 refine Yv (args := [(vi (Cq .i64 (Ae .i64 a 8) 255))]) (Ac call46) (fun w1 hw1 => Qj w1 (n := (Cq .i64 (Ae .i64 a 8) 255)) (hG := hG.ext hw1.ext_out) (hn := Tt)) (k := ?_)
 have hil_69706 := Fb (n := (Cq .i64 (Ae .i64 a 8) 255)) z3
 refine Hg Ag z33 (k := fun r6 hr6 => ?_)
 refine De ((([(Lib.itoa (Cq .i64 (Ae .i64 a 24) 255))] : List An) ++ ([(Lib.itoa (Cq .i64 (Ae .i64 a 16) 255))] : List An)) ++ ([(Lib.itoa (Cq .i64 (Ae .i64 a 8) 255))] : List An)) rfl F9 underlying106 My hox3 q0 (Cl.lit (xs := ([(Lib.itoa (Cq .i64 (Ae .i64 a 8) 255))] : List An)) My) ⟨by first | omega | (simp; done) | (simp; omega), by first | omega | (simp; done) | (simp; omega)⟩ (n := (([(Lib.itoa (Cq .i64 (Ae .i64 a 24) 255))] : List An) ++ ([(Lib.itoa (Cq .i64 (Ae .i64 a 16) 255))] : List An)).length) (m := 1) (k := fun ax5 cx5 Bx5 hox5 => ?_)
 have hal5 : ((([(Lib.itoa (Cq .i64 (Ae .i64 a 24) 255))] : List An) ++ ([(Lib.itoa (Cq .i64 (Ae .i64 a 16) 255))] : List An)) ++ ([(Lib.itoa (Cq .i64 (Ae .i64 a 8) 255))] : List An)).length = (([(Lib.itoa (Cq .i64 (Ae .i64 a 24) 255))] : List An) ++ ([(Lib.itoa (Cq .i64 (Ae .i64 a 16) 255))] : List An)).length + 1 := by first | rfl | exact List.length_append | simp
 refine AH7 ?_
 refine D3 ?_
 refine Rf ?_
 refine Zz ?_
 refine cS ?_
 refine fP ?_
 refine iN ?_
 refine lF ?_
 refine Af Qy (k := ?_)
 refine Af Nn (k := ?_)
 refine Ly (vs := [(vi (Cq .i64 (Ae .i64 a 0) 255))]) hl3 q0 Dw ?_
 refine Cp ?_
 refine Mj ?_
 refine cV ?_
 refine AV1 ?_
 refine Fo ?_
 have hbb := Vt (a := a) z3
 refine Yv (args := [(vi (Cq .i64 (Ae .i64 a 0) 255))]) (Ac call46) (fun w1 hw1 => Qj w1 (n := (Cq .i64 (Ae .i64 a 0) 255)) (hG := hG.ext hw1.ext_out) (hn := Tt)) (k := ?_)
 have hil_59981 := Fb (n := (Cq .i64 (Ae .i64 a 0) 255)) z3
 refine Hg Ag z33 (k := fun r7 hr7 => ?_)
 refine De (((([(Lib.itoa (Cq .i64 (Ae .i64 a 24) 255))] : List An) ++ ([(Lib.itoa (Cq .i64 (Ae .i64 a 16) 255))] : List An)) ++ ([(Lib.itoa (Cq .i64 (Ae .i64 a 8) 255))] : List An)) ++ ([(Lib.itoa (Cq .i64 (Ae .i64 a 0) 255))] : List An)) rfl F9 underlying106 My hox5 q0 (Cl.lit (xs := ([(Lib.itoa (Cq .i64 (Ae .i64 a 0) 255))] : List An)) My) ⟨by first | omega | (simp; done) | (simp; omega), by first | omega | (simp; done) | (simp; omega)⟩ (n := ((([(Lib.itoa (Cq .i64 (Ae .i64 a 24) 255))] : List An) ++ ([(Lib.itoa (Cq .i64 (Ae .i64 a 16) 255))] : List An)) ++ ([(Lib.itoa (Cq .i64 (Ae .i64 a 8) 255))] : List An)).length) (m := 1) (k := fun ax7 cx7 Bx7 hox7 => ?_)
 have hal7 : (((([(Lib.itoa (Cq .i64 (Ae .i64 a 24) 255))] : List An) ++ ([(Lib.itoa (Cq .i64 (Ae .i64 a 16) 255))] : List An)) ++ ([(Lib.itoa (Cq .i64 (Ae .i64 a 8) 255))] : List An)) ++ ([(Lib.itoa (Cq .i64 (Ae .i64 a 0) 255))] : List An)).length = ((([(Lib.itoa (Cq .i64 (Ae .i64 a 24) 255))] : List An) ++ ([(Lib.itoa (Cq .i64 (Ae .i64 a 16) 255))] : List An)) ++ ([(Lib.itoa (Cq .i64 (Ae .i64 a 8) 255))] : List An)).length + 1 := by first | rfl | exact List.length_append | simp
 refine AH7 ?_
 refine D3 ?_
 refine Rf ?_
 refine Zz ?_
 refine cS ?_
 refine fP ?_
 refine kZ ?_
 refine Ko ?_
 refine Gh (.inr rfl) results213 q0 ?_
 refine aH ?_
 refine Af (Bm isAgg106) (k := ?_)
 refine Cy (args := [(vs ax7 ((((([(Lib.itoa (Cq .i64 (Ae .i64 a 24) 255))] : List An) ++ ([(Lib.itoa (Cq .i64 (Ae .i64 a 16) 255))] : List An)) ++ ([(Lib.itoa (Cq .i64 (Ae .i64 a 8) 255))] : List An)) ++ ([(Lib.itoa (Cq .i64 (Ae .i64 a 0) 255))] : List An)).length) cx7), (vt ([46] : An))]) (Ac call48) (fun w1 hw1 => gZ w1 (h_xs := (hox7.slj My) w1 hw1) (xs := (((([(Lib.itoa (Cq .i64 (Ae .i64 a 24) 255))] : List An) ++ ([(Lib.itoa (Cq .i64 (Ae .i64 a 16) 255))] : List An)) ++ ([(Lib.itoa (Cq .i64 (Ae .i64 a 8) 255))] : List An)) ++ ([(Lib.itoa (Cq .i64 (Ae .i64 a 0) 255))] : List An))) (sep := ([46] : An)) (hc := hox7.le) (hn := Tt) (hl := Nat.le_trans (show (Lib.join (((([(Lib.itoa (Cq .i64 (Ae .i64 a 24) 255))] : List An) ++ ([(Lib.itoa (Cq .i64 (Ae .i64 a 16) 255))] : List An)) ++ ([(Lib.itoa (Cq .i64 (Ae .i64 a 8) 255))] : List An)) ++ ([(Lib.itoa (Cq .i64 (Ae .i64 a 0) 255))] : List An)) ([46] : An)).length ≤ 100000 by (have := dT (Fb (n := Cq .i64 (Ae .i64 a 24) 255) z3) (Fb (n := Cq .i64 (Ae .i64 a 16) 255) z3) (Fb (n := Cq .i64 (Ae .i64 a 8) 255) z3) (Fb (n := Cq .i64 (Ae .i64 a 0) 255) z3); omega)) (by decide))) (k := ?_)
 have hjl_72793 : (Lib.join (((([(Lib.itoa (Cq .i64 (Ae .i64 a 24) 255))] : List An) ++ ([(Lib.itoa (Cq .i64 (Ae .i64 a 16) 255))] : List An)) ++ ([(Lib.itoa (Cq .i64 (Ae .i64 a 8) 255))] : List An)) ++ ([(Lib.itoa (Cq .i64 (Ae .i64 a 0) 255))] : List An)) ([46] : An)).length ≤ 100000 := by (have := dT (Fb (n := Cq .i64 (Ae .i64 a 24) 255) z3) (Fb (n := Cq .i64 (Ae .i64 a 16) 255) z3) (Fb (n := Cq .i64 (Ae .i64 a 8) 255) z3) (Fb (n := Cq .i64 (Ae .i64 a 0) 255) z3); omega)
 refine aC ?_
 refine Dq [rD3] (qa (qc (qa (qa (qa (qa q0)))))) results107 (Bw.tmp rfl z0) (fun w1 hw1 => ?_)
 exact ⟨(rq (hF.f hq1)), hw1.ext_out⟩

theorem Tf (w : World) {ea0 : Addr} {ea1 : Addr} {ea2 : Addr} {ea3 : Addr} {ea4 : Addr} {ea5 : Addr} {ea6 : Addr} {ea7 : Addr} {ea8 : Addr} {ea9 : Addr} {ea10 : Addr} {ea11 : Addr} {ea12 : Addr} {ea13 : Addr} {ea14 : Addr} {ea15 : Addr} {t : An} {most : Int} (n_t : t.length ≤ 1000000) (hG : Gl w) (hE : Er w ea0 ea1 ea2 ea3 ea4 ea5 ea6 ea7 ea8 ea9 ea10 ea11 ea12 ea13 ea14 ea15) (hm : 0 ≤ most ∧ most ≤ 1000000000) : Ha Tryz.prog 163 [(Value.agg [(vt t)].toArray), (vi most)] w (Value.tuple [(vi ((Dx t most).1)), (Value.bool ((Dx t most).2))].toArray) := by
 have hF := Is.refl (Dx t most)
 refine enter func163 ntmps163 (h := ?_)
 refine Z2 ?_
 refine Ak Ag z31 (k := fun r1 hr1 => ?_)
 refine Lq ?_
 refine Z2 ?_
 refine Ik ?_
 refine Z2 ?_
 refine M6 ?_
 refine Ak Ag (jO runUnderlying9) (k := fun r2 hr2 => ?_)
 refine Nj ?_
 refine Il (σ1 := Nat) (σ2 := Int) (σ3 := Nat) (fun n_3 n_1 x_2 => ((r2, Obj.stringIter (bs t) x_2) :: ((r1, oc [(vt t)] 190) :: []))) (fun n_3 n_1 x_2 => [(1, (vi most)), (2, (Value.pointer (some ⟨r1, 0, none⟩))), (4, (vi 0)), (5, (Value.bool false)), (6, (vi n_1)), (11, (Value.pointer (some ⟨r2, 0, none⟩)))]) (fun n_3 n_1 x_2 => t.length - x_2 < n_3 ∧ Is (Sy t most (t.length + 1) 0 0) (Sy t most n_3 n_1 x_2) ∧ 0 ≤ n_1 ∧ n_1 ≤ 10 * most + 9) (fun n_3 n_1 x_2 => n_3) (t.length + 1) 0 0 ?_ se (List.Perm.refl _) ?_
 ·exact ⟨Nat.lt_succ_self _, Is.refl _, z3⟩
 ·rintro (_ | n_3) n_1 x_2 ⟨hm5, hF4, hi6⟩
  ·omega
  refine Z2 ?_
  refine pU q0 (fun hq1 => ?_) (fun hq1 => ?_)
  rotate_left
  ·refine Af Ju (k := ?_)
   refine Jr ?_
   refine kZ ?_
   refine Ia ?_
   refine Eu ?_
   refine Eh mixed 13 [(true, 0), (true, 1), (true, 2), (true, 3), (true, 4), (true, 5), (true, 7), (true, 8), (false, 6), (true, 9), (true, 10), (true, 11), (true, 12)] z2 ?_
   refine Li ?_
   refine Fo ?_
   refine Be Lm (k := ?_)
   refine Fo ?_
   refine Dg 36 rfl (fun hq5 => ?_) (fun hq5 => ?_)
   rotate_left
   ·refine Ay 5 rfl ?_
    refine Be Ft (k := ?_)
    refine aJ ?_
    refine Z83 ?_
    refine Aa results163 (Bw.tmp rfl z0) (fun w1 hw1 => ?_)
    exact ⟨(rq ((hF.ok2 (hF4.neg hq1)).neg hq5)), hw1.ext_out⟩
   refine Ht ?_
   refine Bu (Al kA) (k := ?_)
   refine Bu (Bm isAgg9) (k := ?_)
   refine Ms (args := [(vi n_1)]) (Ac call46) (fun w1 hw1 => Qj w1 (n := n_1) (hG := hG.ext hw1.ext_out) (hn := Tt)) (k := ?_)
   have hil_26873 := Fb (n := n_1) z3
   refine Bu tF (k := ?_)
   refine Be Kv (k := ?_)
   refine aJ ?_
   refine Z83 ?_
   refine Aa results163 (Bw.tmp rfl z0) (fun w1 hw1 => ?_)
   exact ⟨(rq ((hF.ok2 (hF4.neg hq1)).pos hq5)), hw1.ext_out⟩
  have hrhq1 := wW t x_2
  have hphq1 := pT t x_2
  refine Af Ju (k := ?_)
  refine Jr ?_
  refine Z31 ?_
  refine Gr ?_
  refine Z2 ?_
  refine Af Ju (k := ?_)
  refine Iv ?_
  refine aB ?_
  refine Ao 17 rfl (fun hq2 => ?_) (fun hq2 => ?_)
  ·refine Ab 2 rfl ?_
   refine fH ?_
   refine Uy ?_
   refine Nh ?_
   refine Rm ?_
   refine Z50 ?_
   refine Aa results163 (Bw.tmp rfl z0) (fun w1 hw1 => ?_)
   exact ⟨(rq (hF.er2 ((hF4.pos hq1).pos hq2))), hw1.ext_out⟩
  refine sF ?_
  refine Z5 ?_
  refine Ao 21 rfl (fun hq3 => ?_) (fun hq3 => ?_)
  ·refine Ab 3 rfl ?_
   refine Uy ?_
   refine Nh ?_
   refine Rm ?_
   refine Z50 ?_
   refine Aa results163 (Bw.tmp rfl z0) (fun w1 hw1 => ?_)
   exact ⟨(rq (hF.er2 (((hF4.pos hq1).neg hq2).pos hq3))), hw1.ext_out⟩
  refine Qa ?_
  refine Ar Ln (k := ?_)
  refine Pe ?_
  refine Bi rfl (fun hq4 => ?_) (fun hq4 => ?_)
  rotate_left
  ·refine Cg ?_
   refine Du ?_
   refine Jt ?_
   refine Af mN (k := ?_)
   refine Ck ?_
   refine BG0 ?_
   refine Xe ?_
   refine Fr ?_
   exact Ga n_3 ((n_1 * 10) + ((((dK t x_2).1 : Nat) : Int) - 48)) (x_2 + (dK t x_2).2) ⟨by omega, ((((hF4.pos hq1).neg hq2).neg hq3).neg hq4), z3⟩ (Nat.lt_succ_self _) se (List.Perm.refl _)
  refine Z2 ?_
  refine Nh ?_
  refine Rm ?_
  refine Z50 ?_
  refine Aa results163 (Bw.tmp rfl z0) (fun w1 hw1 => ?_)
  exact ⟨(rq (hF.er2 ((((hF4.pos hq1).neg hq2).neg hq3).pos hq4))), hw1.ext_out⟩

theorem G4 (w : World) {ea0 : Addr} {ea1 : Addr} {ea2 : Addr} {ea3 : Addr} {ea4 : Addr} {ea5 : Addr} {ea6 : Addr} {ea7 : Addr} {ea8 : Addr} {ea9 : Addr} {ea10 : Addr} {ea11 : Addr} {ea12 : Addr} {ea13 : Addr} {ea14 : Addr} {ea15 : Addr} {s : An} (n_s : s.length ≤ 1000000) (hG : Gl w) (hE : Er w ea0 ea1 ea2 ea3 ea4 ea5 ea6 ea7 ea8 ea9 ea10 ea11 ea12 ea13 ea14 ea15) : Ha Tryz.prog 52 [(vt s)] w (Value.tuple [(vi ((Vq s).1)), (vi ((Vq s).2))].toArray) := by
 have hF := Is.refl (Vq s)
 refine enter func52 ntmps52 (h := ?_)
 refine Z2 ?_
 refine Lq ?_
 refine M7 ?_
 refine Af (Cx (cs := [_, _, _, _, _, _]) zeroValue193 BA1) (k := ?_)
 refine Ak Ag J2 (k := fun r1 hr1 => ?_)
 refine Hq ?_
 refine fU ?_
 refine Ik ?_
 refine Hp ?_
 refine Sf ?_
 refine Ak Ag (Ea (l := [_, _, _, _]) runUnderlying260 sizeOf35 zeroValue35) (k := fun r2 hr2 => ?_)
 refine Bq (args := [_]) (Ac call106) func106 ntmps106 ?_
 refine Lj ?_
 refine N1 ?_
 refine BF8 ?_
 refine AF5 ?_
 refine Si ?_
 refine Af (Al Vw) (k := ?_)
 refine M6 ?_
 refine Cy (args := [(vt s), (vt ([46] : An))]) (Ac call51) (fun w1 hw1 => jW w1 (s := s) (sep := ([46] : An)) (hG := hG.ext hw1.ext_out) (hn := Tt)) (k := ?_)
 have hct_60744 := bE s ([46] : An)
 refine Kf ?_
 refine lI ?_
 refine Lq ?_
 refine M7 ?_
 refine Cy (Ac call163) (fun w1 hw1 => Tf w1 (t := ((Lib.cut s ([46] : An)).1)) (most := 255) (n_t := Ng) (hG := hG.ext hw1.ext_out) (hE := hE.ext hw1.ext_out) (hm := Ng)) (k := ?_)
 refine Kf ?_
 refine Mr ?_
 refine Ik ?_
 refine gU _ _ [((⟨r1, 5, none⟩ : Addr), (vi 0))] (vp (qa q0) (nC nE)) (by repeat (first | exact KC.nil | refine KC.cons I8 rfl ?_)) mixed 16 [(true, 0), (true, 1), (true, 2), (true, 3), (true, 4), (true, 5), (true, 6), (true, 7), (true, 8), (true, 9), (true, 10), (false, 11), (true, 12), (true, 13), (true, 14), (false, 15)] z2 ?_
 refine sB ?_
 refine pD ?_
 refine AG3 ?_
 refine sB ?_
 refine Xk ((Gf).k) (k := ?_)
 refine AH5 ?_
 refine Xk ((Fi (m := 0) runUnderlying191 sizeOf3).k) (k := ?_)
 refine tJ (V' := ((r1, oc [(vt s), (vi ((Dx ((Lib.cut s ([46] : An)).1) 255).1)), (vi 0), (vi 0), (vi 0), (vi 0)] 193) :: [])) (by repeat (first | exact KC.nil | refine KC.cons I8 rfl ?_)) z78 (k := ?_)
 refine pD ?_
 refine AG4 ?_
 refine tJ (V' := ((r1, oc [(Value.string (bs ((Lib.cut s ([46] : An)).2.1))), (vi ((Dx ((Lib.cut s ([46] : An)).1) 255).1)), (vi 0), (vi 0), (vi 0), (vi 0)] 193) :: [])) (by repeat (first | exact KC.nil | refine KC.cons I8 rfl ?_)) (Bn (l' := [_, _, _, _, _, _]) sizeOf9) (k := ?_)
 refine pV ?_
 refine Hw (nC nE) ?_
 refine Lr ?_
 refine sC ?_
 refine AI3 ?_
 refine sC ?_
 refine iI ?_
 refine Hp ?_
 refine Bo 46 rfl (fun hq1 => ?_) (fun hq1 => ?_)
 rotate_left
 ·refine Ab 7 rfl ?_
  refine Hz ?_
  refine AI4 ?_
  refine sA ?_
  refine Yo ?_
  refine Nh ?_
  refine Aa results52 (Bw.tmp rfl z0) (fun w1 hw1 => ?_)
  exact ⟨(rq (hF.f hq1)), hw1.ext_out⟩
 refine Qa ?_
 refine AI8 ?_
 refine rZ ?_
 refine AI5 ?_
 refine Rf ?_
 refine Dl rfl (fun hq2 => ?_) (fun hq2 => ?_)
 ·refine Cb ?_
  refine Cp ?_
  refine sA ?_
  refine Yo ?_
  refine Nh ?_
  refine Aa results52 (Bw.tmp rfl z0) (fun w1 hw1 => ?_)
  exact ⟨(rq ((hF.t hq1).t hq2)), hw1.ext_out⟩
 refine Vb ?_
 refine Af (Ei runUnderlying260 sizeOf35 1) (k := ?_)
 refine rW ?_
 refine AF5 ?_
 refine Si ?_
 refine Af (Al Vw) (k := ?_)
 refine M6 ?_
 refine Cy (args := [(Value.string (bs ((Lib.cut s ([46] : An)).2.1))), (vt ([46] : An))]) (Ac call51) (fun w1 hw1 => jW w1 (s := ((Lib.cut s ([46] : An)).2.1)) (sep := ([46] : An)) (hG := hG.ext hw1.ext_out) (hn := Tt)) (k := ?_)
 have hct_48814 := bE ((Lib.cut s ([46] : An)).2.1) ([46] : An)
 refine Kf ?_
 refine lI ?_
 refine Lq ?_
 refine M7 ?_
 refine Cy (Ac call163) (fun w1 hw1 => Tf w1 (t := ((Lib.cut ((Lib.cut s ([46] : An)).2.1) ([46] : An)).1)) (most := 255) (n_t := Ng) (hG := hG.ext hw1.ext_out) (hE := hE.ext hw1.ext_out) (hm := Ng)) (k := ?_)
 refine Kf ?_
 refine Mr ?_
 refine Ik ?_
 refine gU _ _ [((⟨r1, 5, none⟩ : Addr), (vi 1))] (vp (List.Perm.refl _) (nC nE)) (by repeat (first | exact KC.nil | refine KC.cons I8 rfl ?_)) mixed 16 [(true, 0), (true, 1), (true, 2), (true, 3), (true, 4), (true, 5), (true, 6), (true, 7), (true, 8), (true, 9), (true, 10), (false, 11), (true, 12), (true, 13), (true, 14), (false, 15)] z2 ?_
 refine sB ?_
 refine pD ?_
 refine AG3 ?_
 refine sB ?_
 refine Xk ((Gf).k) (k := ?_)
 refine AH5 ?_
 refine Xk ((Fi (m := 1) runUnderlying191 sizeOf3).k) (k := ?_)
 refine tJ (V' := ((r1, oc [(Value.string (bs ((Lib.cut s ([46] : An)).2.1))), (vi ((Dx ((Lib.cut s ([46] : An)).1) 255).1)), (vi ((Dx ((Lib.cut ((Lib.cut s ([46] : An)).2.1) ([46] : An)).1) 255).1)), (vi 0), (vi 0), (vi 1)] 193) :: [])) (by repeat (first | exact KC.nil | refine KC.cons I8 rfl ?_)) z78 (k := ?_)
 refine pD ?_
 refine AG4 ?_
 refine tJ (V' := ((r1, oc [(Value.string (bs ((Lib.cut ((Lib.cut s ([46] : An)).2.1) ([46] : An)).2.1))), (vi ((Dx ((Lib.cut s ([46] : An)).1) 255).1)), (vi ((Dx ((Lib.cut ((Lib.cut s ([46] : An)).2.1) ([46] : An)).1) 255).1)), (vi 0), (vi 0), (vi 1)] 193) :: [])) (by repeat (first | exact KC.nil | refine KC.cons I8 rfl ?_)) (Bn (l' := [_, _, _, _, _, _]) sizeOf9) (k := ?_)
 refine pV ?_
 refine Hw (nC nE) ?_
 refine Lr ?_
 refine sC ?_
 refine AI3 ?_
 refine sC ?_
 refine iI ?_
 refine Hp ?_
 refine Bo 46 rfl (fun hq3 => ?_) (fun hq3 => ?_)
 rotate_left
 ·refine Ab 7 rfl ?_
  refine Hz ?_
  refine AI4 ?_
  refine sA ?_
  refine Yo ?_
  refine Nh ?_
  refine Aa results52 (Bw.tmp rfl z0) (fun w1 hw1 => ?_)
  exact ⟨(rq (((hF.t hq1).f hq2).f hq3)), hw1.ext_out⟩
 refine Qa ?_
 refine AI8 ?_
 refine rZ ?_
 refine AI5 ?_
 refine Rf ?_
 refine Dl rfl (fun hq4 => ?_) (fun hq4 => ?_)
 ·refine Cb ?_
  refine Cp ?_
  refine sA ?_
  refine Yo ?_
  refine Nh ?_
  refine Aa results52 (Bw.tmp rfl z0) (fun w1 hw1 => ?_)
  exact ⟨(rq ((((hF.t hq1).f hq2).t hq3).t hq4)), hw1.ext_out⟩
 refine Vb ?_
 refine Af (Ei runUnderlying260 sizeOf35 2) (k := ?_)
 refine rW ?_
 refine AF5 ?_
 refine Si ?_
 refine Af (Al Vw) (k := ?_)
 refine M6 ?_
 refine Cy (args := [(Value.string (bs ((Lib.cut ((Lib.cut s ([46] : An)).2.1) ([46] : An)).2.1))), (vt ([46] : An))]) (Ac call51) (fun w1 hw1 => jW w1 (s := ((Lib.cut ((Lib.cut s ([46] : An)).2.1) ([46] : An)).2.1)) (sep := ([46] : An)) (hG := hG.ext hw1.ext_out) (hn := Tt)) (k := ?_)
 have hct_70887 := bE ((Lib.cut ((Lib.cut s ([46] : An)).2.1) ([46] : An)).2.1) ([46] : An)
 refine Kf ?_
 refine lI ?_
 refine Lq ?_
 refine M7 ?_
 refine Cy (Ac call163) (fun w1 hw1 => Tf w1 (t := ((Lib.cut ((Lib.cut ((Lib.cut s ([46] : An)).2.1) ([46] : An)).2.1) ([46] : An)).1)) (most := 255) (n_t := Ng) (hG := hG.ext hw1.ext_out) (hE := hE.ext hw1.ext_out) (hm := Ng)) (k := ?_)
 refine Kf ?_
 refine Mr ?_
 refine Ik ?_
 refine gU _ _ [((⟨r1, 5, none⟩ : Addr), (vi 2))] (vp (List.Perm.refl _) (nC nE)) (by repeat (first | exact KC.nil | refine KC.cons I8 rfl ?_)) mixed 16 [(true, 0), (true, 1), (true, 2), (true, 3), (true, 4), (true, 5), (true, 6), (true, 7), (true, 8), (true, 9), (true, 10), (false, 11), (true, 12), (true, 13), (true, 14), (false, 15)] z2 ?_
 refine sB ?_
 refine pD ?_
 refine AG3 ?_
 refine sB ?_
 refine Xk ((Gf).k) (k := ?_)
 refine AH5 ?_
 refine Xk ((Fi (m := 2) runUnderlying191 sizeOf3).k) (k := ?_)
 refine tJ (V' := ((r1, oc [(Value.string (bs ((Lib.cut ((Lib.cut s ([46] : An)).2.1) ([46] : An)).2.1))), (vi ((Dx ((Lib.cut s ([46] : An)).1) 255).1)), (vi ((Dx ((Lib.cut ((Lib.cut s ([46] : An)).2.1) ([46] : An)).1) 255).1)), (vi ((Dx ((Lib.cut ((Lib.cut ((Lib.cut s ([46] : An)).2.1) ([46] : An)).2.1) ([46] : An)).1) 255).1)), (vi 0), (vi 2)] 193) :: [])) (by repeat (first | exact KC.nil | refine KC.cons I8 rfl ?_)) z78 (k := ?_)
 refine pD ?_
 refine AG4 ?_
 refine tJ (V' := ((r1, oc [(Value.string (bs ((Lib.cut ((Lib.cut ((Lib.cut s ([46] : An)).2.1) ([46] : An)).2.1) ([46] : An)).2.1))), (vi ((Dx ((Lib.cut s ([46] : An)).1) 255).1)), (vi ((Dx ((Lib.cut ((Lib.cut s ([46] : An)).2.1) ([46] : An)).1) 255).1)), (vi ((Dx ((Lib.cut ((Lib.cut ((Lib.cut s ([46] : An)).2.1) ([46] : An)).2.1) ([46] : An)).1) 255).1)), (vi 0), (vi 2)] 193) :: [])) (by repeat (first | exact KC.nil | refine KC.cons I8 rfl ?_)) (Bn (l' := [_, _, _, _, _, _]) sizeOf9) (k := ?_)
 refine pV ?_
 refine Hw (nC nE) ?_
 refine Lr ?_
 refine sC ?_
 refine AI3 ?_
 refine sC ?_
 refine iI ?_
 refine Hp ?_
 refine Bo 46 rfl (fun hq5 => ?_) (fun hq5 => ?_)
 rotate_left
 ·refine Ab 7 rfl ?_
  refine Hz ?_
  refine AI4 ?_
  refine sA ?_
  refine Yo ?_
  refine Nh ?_
  refine Aa results52 (Bw.tmp rfl z0) (fun w1 hw1 => ?_)
  exact ⟨(rq (((((hF.t hq1).f hq2).t hq3).f hq4).f hq5)), hw1.ext_out⟩
 refine Qa ?_
 refine AI8 ?_
 refine rZ ?_
 refine AI5 ?_
 refine Rf ?_
 refine Dl rfl (fun hq6 => ?_) (fun hq6 => ?_)
 ·refine Cb ?_
  refine Cp ?_
  refine sA ?_
  refine Yo ?_
  refine Nh ?_
  refine Aa results52 (Bw.tmp rfl z0) (fun w1 hw1 => ?_)
  exact ⟨(rq ((((((hF.t hq1).f hq2).t hq3).f hq4).t hq5).t hq6)), hw1.ext_out⟩
 refine Vb ?_
 refine Af (Ei runUnderlying260 sizeOf35 3) (k := ?_)
 refine rW ?_
 refine AF5 ?_
 refine Si ?_
 refine Af (Al Vw) (k := ?_)
 refine M6 ?_
 refine Cy (args := [(Value.string (bs ((Lib.cut ((Lib.cut ((Lib.cut s ([46] : An)).2.1) ([46] : An)).2.1) ([46] : An)).2.1))), (vt ([46] : An))]) (Ac call51) (fun w1 hw1 => jW w1 (s := ((Lib.cut ((Lib.cut ((Lib.cut s ([46] : An)).2.1) ([46] : An)).2.1) ([46] : An)).2.1)) (sep := ([46] : An)) (hG := hG.ext hw1.ext_out) (hn := Tt)) (k := ?_)
 have hct_80526 := bE ((Lib.cut ((Lib.cut ((Lib.cut s ([46] : An)).2.1) ([46] : An)).2.1) ([46] : An)).2.1) ([46] : An)
 refine Kf ?_
 refine lI ?_
 refine Lq ?_
 refine M7 ?_
 refine Cy (Ac call163) (fun w1 hw1 => Tf w1 (t := ((Lib.cut ((Lib.cut ((Lib.cut ((Lib.cut s ([46] : An)).2.1) ([46] : An)).2.1) ([46] : An)).2.1) ([46] : An)).1)) (most := 255) (n_t := Ng) (hG := hG.ext hw1.ext_out) (hE := hE.ext hw1.ext_out) (hm := Ng)) (k := ?_)
 refine Kf ?_
 refine Mr ?_
 refine Ik ?_
 refine gU _ _ [((⟨r1, 5, none⟩ : Addr), (vi 3))] (vp (List.Perm.refl _) (nC nE)) (by repeat (first | exact KC.nil | refine KC.cons I8 rfl ?_)) mixed 16 [(true, 0), (true, 1), (true, 2), (true, 3), (true, 4), (true, 5), (true, 6), (true, 7), (true, 8), (true, 9), (true, 10), (false, 11), (true, 12), (true, 13), (true, 14), (false, 15)] z2 ?_
 refine sB ?_
 refine pD ?_
 refine AG3 ?_
 refine sB ?_
 refine Xk ((Gf).k) (k := ?_)
 refine AH5 ?_
 refine Xk ((Fi (m := 3) runUnderlying191 sizeOf3).k) (k := ?_)
 refine tJ (V' := ((r1, oc [(Value.string (bs ((Lib.cut ((Lib.cut ((Lib.cut s ([46] : An)).2.1) ([46] : An)).2.1) ([46] : An)).2.1))), (vi ((Dx ((Lib.cut s ([46] : An)).1) 255).1)), (vi ((Dx ((Lib.cut ((Lib.cut s ([46] : An)).2.1) ([46] : An)).1) 255).1)), (vi ((Dx ((Lib.cut ((Lib.cut ((Lib.cut s ([46] : An)).2.1) ([46] : An)).2.1) ([46] : An)).1) 255).1)), (vi ((Dx ((Lib.cut ((Lib.cut ((Lib.cut ((Lib.cut s ([46] : An)).2.1) ([46] : An)).2.1) ([46] : An)).2.1) ([46] : An)).1) 255).1)), (vi 3)] 193) :: [])) (by repeat (first | exact KC.nil | refine KC.cons I8 rfl ?_)) z78 (k := ?_)
 refine pD ?_
 refine AG4 ?_
 refine tJ (V' := ((r1, oc [(Value.string (bs ((Lib.cut ((Lib.cut ((Lib.cut ((Lib.cut s ([46] : An)).2.1) ([46] : An)).2.1) ([46] : An)).2.1) ([46] : An)).2.1))), (vi ((Dx ((Lib.cut s ([46] : An)).1) 255).1)), (vi ((Dx ((Lib.cut ((Lib.cut s ([46] : An)).2.1) ([46] : An)).1) 255).1)), (vi ((Dx ((Lib.cut ((Lib.cut ((Lib.cut s ([46] : An)).2.1) ([46] : An)).2.1) ([46] : An)).1) 255).1)), (vi ((Dx ((Lib.cut ((Lib.cut ((Lib.cut ((Lib.cut s ([46] : An)).2.1) ([46] : An)).2.1) ([46] : An)).2.1) ([46] : An)).1) 255).1)), (vi 3)] 193) :: [])) (by repeat (first | exact KC.nil | refine KC.cons I8 rfl ?_)) (Bn (l' := [_, _, _, _, _, _]) sizeOf9) (k := ?_)
 refine pV ?_
 refine Hw (nC nE) ?_
 refine Lr ?_
 refine sC ?_
 refine AI3 ?_
 refine sC ?_
 refine iI ?_
 refine Hp ?_
 refine Bo 46 rfl (fun hq7 => ?_) (fun hq7 => ?_)
 rotate_left
 ·refine Ab 7 rfl ?_
  refine Hz ?_
  refine AI4 ?_
  refine sA ?_
  refine Yo ?_
  refine Nh ?_
  refine Aa results52 (Bw.tmp rfl z0) (fun w1 hw1 => ?_)
  exact ⟨(rq (((((((hF.t hq1).f hq2).t hq3).f hq4).t hq5).f hq6).f hq7)), hw1.ext_out⟩
 refine Qa ?_
 refine AI8 ?_
 refine rZ ?_
 refine AI5 ?_
 refine Rf ?_
 refine Dl rfl (fun hq8 => ?_) (fun hq8 => ?_)
 ·refine Cb ?_
  refine Cp ?_
  refine sA ?_
  refine Yo ?_
  refine Nh ?_
  refine Aa results52 (Bw.tmp rfl z0) (fun w1 hw1 => ?_)
  exact ⟨(rq ((((((((hF.t hq1).f hq2).t hq3).f hq4).t hq5).f hq6).t hq7).t hq8)), hw1.ext_out⟩
 refine cY ?_
 refine Bd results106 z0 ?_
 refine aF ?_
 refine Lj ?_
 refine Si ?_
 refine Af (Al uH) (k := ?_)
 refine Af (Ch isAgg191 sizeOf191) (k := ?_)
 refine lO ?_
 refine Af (Np (m := 0) runUnderlying191 sizeOf3 isAgg3) (k := ?_)
 refine Z1 ?_
 refine Jt ?_
 refine N3 ?_
 refine Af Rr (k := ?_)
 refine Mj ?_
 refine vF ?_
 refine Af (Np (m := 1) runUnderlying191 sizeOf3 isAgg3) (k := ?_)
 refine Z1 ?_
 refine Jt ?_
 refine N3 ?_
 refine Af Rr (k := ?_)
 refine Mj ?_
 refine vF ?_
 refine Af (Np (m := 2) runUnderlying191 sizeOf3 isAgg3) (k := ?_)
 refine Z1 ?_
 refine Jt ?_
 refine N3 ?_
 refine Af Rr (k := ?_)
 refine Mj ?_
 refine vF ?_
 refine Af (Np (m := 3) runUnderlying191 sizeOf3 isAgg3) (k := ?_)
 refine Z1 ?_
 refine Jt ?_
 refine N3 ?_
 refine Af Rr (k := ?_)
 refine Mj ?_
 refine iK ?_
 refine Z3 ?_
 refine aC ?_
 refine Aa results52 (Bw.tmp rfl z0) (fun w1 hw1 => ?_)
 exact ⟨(rq ((((((((hF.t hq1).f hq2).t hq3).f hq4).t hq5).f hq6).t hq7).f hq8)), hw1.ext_out⟩

theorem nH (w : World) {p : Sz} : Ha Tryz.prog 167 [(Value.agg [(vi p.lo), (vi p.hi)].toArray)] w (Value.bool (dS p)) := by
 have hF := Is.refl (dS p)
 refine enter func167 ntmps167 (h := ?_)
 refine Z2 ?_
 refine Ak Ag rB (k := fun r1 hr1 => ?_)
 refine Kt ?_
 refine Af (Ch isAgg82 sizeOf82) (k := ?_)
 refine Ak Ag (Ea (l := [_, _, _]) runUnderlying378 sizeOf349 zeroValue349) (k := fun r2 hr2 => ?_)
 refine Bq (args := [_, _]) (Ac call216) func216 ntmps216 ?_
 refine Z2 ?_
 refine Ak Ag rB (k := fun r3 hr3 => ?_)
 refine Iv ?_
 refine Af (Fg runUnderlying378) (k := ?_)
 refine lO ?_
 refine Af (Ei runUnderlying378 sizeOf349 0) (k := ?_)
 refine Af (Bm isAgg349) (k := ?_)
 refine Hq ?_
 refine AV9 ?_
 refine Bq (args := [_]) (Ac call217) func217 ntmps217 ?_
 refine Z2 ?_
 refine Ak Ag rB (k := fun r4 hr4 => ?_)
 refine Kt ?_
 refine Af (Al bV) (k := ?_)
 refine Af (Al qI) (k := ?_)
 refine It ?_
 refine Af (Al bV) (k := ?_)
 refine Af (Al qJ) (k := ?_)
 refine It ?_
 refine Af Lm (k := ?_)
 refine Z4 ?_
 refine Bd results217 z0 ?_
 refine Uz ?_
 refine Bi rfl (fun hq1 => ?_) (fun hq1 => ?_)
 ·refine Cb ?_
  refine Cp ?_
  refine Ri ?_
  refine AI9 ?_
  refine Aa results167 z0 (fun w1 hw1 => ?_)
  exact ⟨(rq (hF.pos hq1)), hw1.ext_out⟩
 refine Vb ?_
 refine Af (Ei runUnderlying378 sizeOf349 1) (k := ?_)
 refine Af (Bm isAgg349) (k := ?_)
 refine Hq ?_
 refine AV9 ?_
 refine Bq (args := [_]) (Ac call218) func218 ntmps218 ?_
 refine Z2 ?_
 refine Ak Ag rB (k := fun r5 hr5 => ?_)
 refine Kt ?_
 refine Af (Al bV) (k := ?_)
 refine Af (Al qI) (k := ?_)
 refine BE6 ?_
 refine Z4 ?_
 refine Bd results218 z0 ?_
 refine Uz ?_
 refine Bi rfl (fun hq2 => ?_) (fun hq2 => ?_)
 ·refine Cb ?_
  refine Cp ?_
  refine Ri ?_
  refine AI9 ?_
  refine Aa results167 z0 (fun w1 hw1 => ?_)
  exact ⟨(rq ((hF.neg hq1).pos hq2)), hw1.ext_out⟩
 refine Vb ?_
 refine Af (Ei runUnderlying378 sizeOf349 2) (k := ?_)
 refine Af (Bm isAgg349) (k := ?_)
 refine Hq ?_
 refine AV9 ?_
 refine Bq (args := [_]) (Ac call219) func219 ntmps219 ?_
 refine Z2 ?_
 refine Ak Ag rB (k := fun r6 hr6 => ?_)
 refine Kt ?_
 refine Af (Al bV) (k := ?_)
 refine Af (Al qJ) (k := ?_)
 refine It ?_
 refine Af Lm (k := ?_)
 refine Z4 ?_
 refine Bd results219 z0 ?_
 refine Uz ?_
 refine Bi rfl (fun hq3 => ?_) (fun hq3 => ?_)
 ·refine Cb ?_
  refine Cp ?_
  refine Ri ?_
  refine AI9 ?_
  refine Aa results167 z0 (fun w1 hw1 => ?_)
  exact ⟨(rq (((hF.neg hq1).neg hq2).pos hq3)), hw1.ext_out⟩
 refine cY ?_
 refine AI9 ?_
 refine Aa results167 z0 (fun w1 hw1 => ?_)
 exact ⟨(rq (((hF.neg hq1).neg hq2).neg hq3)), hw1.ext_out⟩

theorem xP (w : World) {t : An} (n_t : t.length ≤ 1000000) : Ha Tryz.prog 53 [(Value.agg [(vt t)].toArray)] w (vi (Wr t)) := by
 have hF := Is.refl (Wr t)
 refine enter func53 ntmps53 (h := ?_)
 refine Z2 ?_
 refine Ak Ag z31 (k := fun r1 hr1 => ?_)
 refine Kt ?_
 refine Ik ?_
 refine Z2 ?_
 refine Af (Al V7) (k := ?_)
 refine Sj ?_
 refine Ak Ag (jO runUnderlying9) (k := fun r2 hr2 => ?_)
 refine Nj ?_
 refine Il (σ1 := Nat) (σ2 := Int) (σ3 := Nat) (fun n_3 n_1 x_2 => ((r2, Obj.stringIter (bs t) x_2) :: ((r1, oc [(vt t)] 120) :: []))) (fun n_3 n_1 x_2 => [(2, (vi 0)), (3, (vi n_1)), (8, (Value.pointer (some ⟨r2, 0, none⟩)))]) (fun n_3 n_1 x_2 => t.length - x_2 < n_3 ∧ Is (Ta t (t.length + 1) 0 0) (Ta t n_3 n_1 x_2) ∧ 0 ≤ n_1 ∧ n_1 ≤ 65535) (fun n_3 n_1 x_2 => n_3) (t.length + 1) 0 0 ?_ se (List.Perm.refl _) ?_
 ·exact ⟨Nat.lt_succ_self _, Is.refl _, z7⟩
 ·rintro (_ | n_3) n_1 x_2 ⟨hm5, hF4, hi6⟩
  ·omega
  refine Z2 ?_
  refine pU q0 (fun hq1 => ?_) (fun hq1 => ?_)
  rotate_left
  ·refine Af Ju (k := ?_)
   refine Jr ?_
   refine kZ ?_
   refine Ia ?_
   refine Vc ?_
   refine Aa results53 z0 (fun w1 hw1 => ?_)
   exact ⟨(rq (hF.ok2 (hF4.neg hq1))), hw1.ext_out⟩
  have hrhq1 := wW t x_2
  have hphq1 := pT t x_2
  refine Af Ju (k := ?_)
  refine Jr ?_
  refine Z31 ?_
  refine Gr ?_
  refine Z2 ?_
  refine Af Ju (k := ?_)
  refine Hq ?_
  refine Af mN (k := ?_)
  refine Ck ?_
  refine BG0 ?_
  refine dE ?_
  refine Hq ?_
  refine aB ?_
  refine Ao 20 rfl (fun hq2 => ?_) (fun hq2 => ?_)
  ·refine Ab 2 rfl ?_
   refine Uy ?_
   refine Z4 ?_
   refine Rm ?_
   refine Z50 ?_
   refine Aa results53 z0 (fun w1 hw1 => ?_)
   exact ⟨(rq (hF.er2 ((hF4.pos hq1).pos hq2))), hw1.ext_out⟩
  refine sF ?_
  refine Pe ?_
  refine Bi rfl (fun hq3 => ?_) (fun hq3 => ?_)
  rotate_left
  ·refine Cg ?_
   refine Fr ?_
   exact Ga n_3 ((n_1 * 10) + ((((dK t x_2).1 : Nat) : Int) - 48)) (x_2 + (dK t x_2).2) ⟨by omega, (((hF4.pos hq1).neg hq2).neg hq3), z3⟩ (Nat.lt_succ_self _) se (List.Perm.refl _)
  refine Yp ?_
  refine Rm ?_
  refine Z50 ?_
  refine Aa results53 z0 (fun w1 hw1 => ?_)
  exact ⟨(rq (hF.er2 (((hF4.pos hq1).neg hq2).pos hq3))), hw1.ext_out⟩

theorem AN2 (w : World) {p : Sz} {n_ : Int} : Ha Tryz.prog 222 [(Value.agg [(vi p.lo), (vi p.hi)].toArray), (vi n_)] w (Value.bool (AZ4 p n_)) := by
 have hF := Is.refl (AZ4 p n_)
 refine enter func222 ntmps222 (h := ?_)
 refine Z2 ?_
 refine Ak Ag rB (k := fun r1 hr1 => ?_)
 refine Kt ?_
 refine Af (Ch isAgg82 sizeOf82) (k := ?_)
 refine Cy (Ac call167) (fun w1 hw1 => nH w1 (p := p)) (k := ?_)
 refine Ck ?_
 refine Bo 7 rfl (fun hq1 => ?_) (fun hq1 => ?_)
 rotate_left
 ·refine Ab 4 rfl ?_
  refine Xg ?_
  refine Hz ?_
  refine Aa results222 z0 (fun w1 hw1 => ?_)
  exact ⟨(rq (hF.f hq1)), hw1.ext_out⟩
 have hfhq1 := U4 hq1
 refine El ?_
 refine Ar (Al qI) (k := ?_)
 refine Qt ?_
 refine Ar Qg (k := ?_)
 refine Jh ?_
 refine Ao 13 rfl (fun hq2 => ?_) (fun hq2 => ?_)
 rotate_left
 ·refine Ab 4 rfl ?_
  refine Hz ?_
  refine Aa results222 z0 (fun w1 hw1 => ?_)
  exact ⟨(rq ((hF.t hq1).neg hq2)), hw1.ext_out⟩
 refine El ?_
 refine Ar (Al qJ) (k := ?_)
 refine lD ?_
 refine Ot ?_
 refine Aa results222 z0 (fun w1 hw1 => ?_)
 exact ⟨(rq ((hF.t hq1).pos hq2)), hw1.ext_out⟩

theorem nI (w : World) {ea0 : Addr} {ea1 : Addr} {ea2 : Addr} {ea3 : Addr} {ea4 : Addr} {ea5 : Addr} {ea6 : Addr} {ea7 : Addr} {ea8 : Addr} {ea9 : Addr} {ea10 : Addr} {ea11 : Addr} {ea12 : Addr} {ea13 : Addr} {ea14 : Addr} {ea15 : Addr} {t : Cd} (hG : Gl w) (hE : Er w ea0 ea1 ea2 ea3 ea4 ea5 ea6 ea7 ea8 ea9 ea10 ea11 ea12 ea13 ea14 ea15) : Ha Tryz.prog 54 [(Value.agg [(vi t.addr), (vi t.port)].toArray)] w (Value.tuple [(vt ((Vr t).1)), (vi ((Vr t).2))].toArray) := by
 have hF := Is.refl (Vr t)
 refine enter func54 ntmps54 (h := ?_)
 refine Z2 ?_
 refine Ak Ag rB (k := fun r1 hr1 => ?_)
 refine Lq ?_
 refine Z2 ?_
 refine Af (Al zK) (k := ?_)
 refine It ?_
 refine Cy (Ac call107) (fun w1 hw1 => G3 w1 (a := t.addr) (hG := hG.ext hw1.ext_out) (hE := hE.ext hw1.ext_out)) (k := ?_)
 have hpl_70744 := xM t.addr
 refine Kf ?_
 refine D4 ?_
 refine D0 ?_
 refine Ao 14 rfl (fun hq1 => ?_) (fun hq1 => ?_)
 ·refine Ab 3 rfl ?_
  refine fH ?_
  refine Uy ?_
  obtain ⟨Thgl2, fhgl2, hgl2⟩ := hE.v3
  refine wG ?_
  refine B6 ?_
  refine Ib ?_
  obtain ⟨Thgl3, fhgl3, hgl3⟩ := hE.v7
  refine sO ?_
  refine A1 ?_
  refine Va ?_
  obtain ⟨Thgl4, fhgl4, hgl4⟩ := hE.v3
  refine Af (Em isAgg93 hgl4) (k := ?_)
  refine A5 ?_
  refine C4 ?_
  refine Nh ?_
  refine Aa results54 (Bw.tmp rfl z0) (fun w1 hw1 => ?_)
  exact ⟨(rq (hF.pos hq1)), hw1.ext_out⟩
 refine Ar (Al hX) (k := ?_)
 refine rZ ?_
 refine Z5 ?_
 refine Ao 19 rfl (fun hq5 => ?_) (fun hq5 => ?_)
 ·refine Ab 3 rfl ?_
  refine Uy ?_
  obtain ⟨Thgl6, fhgl6, hgl6⟩ := hE.v3
  refine sP ?_
  refine B6 ?_
  refine Ib ?_
  obtain ⟨Thgl7, fhgl7, hgl7⟩ := hE.v7
  refine wF ?_
  refine A1 ?_
  refine Va ?_
  obtain ⟨Thgl8, fhgl8, hgl8⟩ := hE.v3
  refine D5 ?_
  refine A5 ?_
  refine C4 ?_
  refine Nh ?_
  refine Aa results54 (Bw.tmp rfl z0) (fun w1 hw1 => ?_)
  exact ⟨(rq ((hF.neg hq1).pos hq5)), hw1.ext_out⟩
 refine Ar (Al hX) (k := ?_)
 refine rJ ?_
 refine Pe ?_
 refine Bi rfl (fun hq9 => ?_) (fun hq9 => ?_)
 rotate_left
 ·refine Cg ?_
  refine Du ?_
  refine Z3 ?_
  refine Af (jN (s := ((Md t.addr).1)) (s' := ([58] : An)) (h := Tt)) (k := ?_)
  have hsa1 : (((Md t.addr).1) ++ ([58] : An)).length = ((Md t.addr).1).length + 1 := by simp only [List.length_append, List.length_cons, List.length_nil, Nat.zero_add]
  refine Af (Al hX) (k := ?_)
  refine It ?_
  refine Cy (args := [(vi t.port)]) (Ac call46) (fun w1 hw1 => Qj w1 (n := t.port) (hG := hG.ext hw1.ext_out) (hn := Tt)) (k := ?_)
  have hil_45697 := Fb (n := t.port) z3
  refine Af (jN (s := (((Md t.addr).1) ++ ([58] : An))) (s' := (Lib.itoa t.port)) (h := Tt)) (k := ?_)
  have hsa2 : ((((Md t.addr).1) ++ ([58] : An)) ++ (Lib.itoa t.port)).length = (((Md t.addr).1) ++ ([58] : An)).length + (Lib.itoa t.port).length := by simp only [List.length_append, List.length_cons, List.length_nil, Nat.zero_add]
  refine aC ?_
  refine Aa results54 (Bw.tmp rfl z0) (fun w1 hw1 => ?_)
  exact ⟨(rq (((hF.neg hq1).neg hq5).neg hq9)), hw1.ext_out⟩
 refine Z2 ?_
 obtain ⟨Thgl10, fhgl10, hgl10⟩ := hE.v3
 refine Af (Em isAgg93 hgl10) (k := ?_)
 refine B6 ?_
 refine Ib ?_
 obtain ⟨Thgl11, fhgl11, hgl11⟩ := hE.v7
 refine Af (Em isAgg93 hgl11) (k := ?_)
 refine A1 ?_
 refine Va ?_
 obtain ⟨Thgl12, fhgl12, hgl12⟩ := hE.v3
 refine Af (Em isAgg93 hgl12) (k := ?_)
 refine A5 ?_
 refine C4 ?_
 refine Nh ?_
 refine Aa results54 (Bw.tmp rfl z0) (fun w1 hw1 => ?_)
 exact ⟨(rq (((hF.neg hq1).neg hq5).pos hq9)), hw1.ext_out⟩

theorem nJ (w : World) {ea0 : Addr} {ea1 : Addr} {ea2 : Addr} {ea3 : Addr} {ea4 : Addr} {ea5 : Addr} {ea6 : Addr} {ea7 : Addr} {ea8 : Addr} {ea9 : Addr} {ea10 : Addr} {ea11 : Addr} {ea12 : Addr} {ea13 : Addr} {ea14 : Addr} {ea15 : Addr} {s : An} (n_s : s.length ≤ 1000000) (hG : Gl w) (hE : Er w ea0 ea1 ea2 ea3 ea4 ea5 ea6 ea7 ea8 ea9 ea10 ea11 ea12 ea13 ea14 ea15) : Ha Tryz.prog 18 [(vt s)] w (Value.tuple [(Value.agg [(vi ((Cs s).1.addr)), (vi ((Cs s).1.port))].toArray), (vi ((Cs s).2))].toArray) := by
 have hF := Is.refl (Cs s)
 refine enter func18 ntmps18 (h := ?_)
 refine Z2 ?_
 refine Ak Ag z68 (k := fun r1 hr1 => ?_)
 refine Hq ?_
 refine Cy (args := [(vt s), (vt ([58] : An))]) (Ac call51) (fun w1 hw1 => jW w1 (s := s) (sep := ([58] : An)) (hG := hG.ext hw1.ext_out) (hn := Tt)) (k := ?_)
 have hct_62884 := bE s ([58] : An)
 refine Kf ?_
 refine lI ?_
 refine Lq ?_
 refine Z3 ?_
 refine Cy (Ac call52) (fun w1 hw1 => G4 w1 (s := ((Lib.cut s ([58] : An)).1)) (n_s := Ng) (hG := hG.ext hw1.ext_out) (hE := hE.ext hw1.ext_out)) (k := ?_)
 refine Kf ?_
 refine cZ ?_
 refine Af (Cx (cs := [_]) zeroValue120 AZ9) (k := ?_)
 refine Cy (Ac call53) (fun w1 hw1 => xP w1 (t := ((Lib.cut s ([58] : An)).2.1)) (n_t := Ng)) (k := ?_)
 refine AJ2 ?_
 refine Ak Ag z68 (k := fun r2 hr2 => ?_)
 refine wH ?_
 refine Jr ?_
 refine AH9 ?_
 refine Cy (Ac call54) (fun w1 hw1 => nI w1 (t := (Cd.mk ((Vq ((Lib.cut s ([58] : An)).1)).1) (Wr ((Lib.cut s ([58] : An)).2.1)))) (hG := hG.ext hw1.ext_out) (hE := hE.ext hw1.ext_out)) (k := ?_)
 refine Kf ?_
 refine Lq ?_
 refine Z3 ?_
 refine D0 ?_
 refine Ao 35 rfl (fun hq1 => ?_) (fun hq1 => ?_)
 ·refine Ab 2 rfl ?_
  refine fH ?_
  refine Uy ?_
  refine AJ2 ?_
  obtain ⟨Thgl2, fhgl2, hgl2⟩ := hE.v3
  refine wG ?_
  refine B6 ?_
  refine Ib ?_
  obtain ⟨Thgl3, fhgl3, hgl3⟩ := hE.v7
  refine sO ?_
  refine A1 ?_
  refine Va ?_
  obtain ⟨Thgl4, fhgl4, hgl4⟩ := hE.v3
  refine Af (Em isAgg93 hgl4) (k := ?_)
  refine A5 ?_
  refine C4 ?_
  refine wH ?_
  refine Rg ?_
  refine Aa results18 (Bw.agg isAgg41 sizeOf41 rfl me rfl z0) (fun w1 hw1 => ?_)
  exact ⟨(rq (hF.pos hq1)), hw1.ext_out⟩
 refine El ?_
 refine Ar Ro (k := ?_)
 refine Z5 ?_
 refine Ao 39 rfl (fun hq5 => ?_) (fun hq5 => ?_)
 ·refine Ab 3 rfl ?_
  refine Uy ?_
  refine AJ2 ?_
  obtain ⟨Thgl6, fhgl6, hgl6⟩ := hE.v3
  refine sP ?_
  refine B6 ?_
  refine Ib ?_
  obtain ⟨Thgl7, fhgl7, hgl7⟩ := hE.v7
  refine wF ?_
  refine A1 ?_
  refine Va ?_
  obtain ⟨Thgl8, fhgl8, hgl8⟩ := hE.v3
  refine D5 ?_
  refine A5 ?_
  refine C4 ?_
  refine wH ?_
  refine Rg ?_
  refine Aa results18 (Bw.agg isAgg41 sizeOf41 rfl me rfl z0) (fun w1 hw1 => ?_)
  exact ⟨(rq ((hF.neg hq1).pos hq5)), hw1.ext_out⟩
 refine Qa ?_
 refine Ar tG (k := ?_)
 refine Pe ?_
 refine Bi rfl (fun hq9 => ?_) (fun hq9 => ?_)
 rotate_left
 ·refine Cg ?_
  refine Du ?_
  refine AH9 ?_
  refine wH ?_
  refine Z4 ?_
  refine Aa results18 (Bw.agg isAgg41 sizeOf41 rfl me rfl z0) (fun w1 hw1 => ?_)
  exact ⟨(rq (((hF.neg hq1).neg hq5).neg hq9)), hw1.ext_out⟩
 refine Z2 ?_
 refine AJ2 ?_
 obtain ⟨Thgl10, fhgl10, hgl10⟩ := hE.v3
 refine Af (Em isAgg93 hgl10) (k := ?_)
 refine B6 ?_
 refine Ib ?_
 obtain ⟨Thgl11, fhgl11, hgl11⟩ := hE.v7
 refine Af (Em isAgg93 hgl11) (k := ?_)
 refine A1 ?_
 refine Va ?_
 obtain ⟨Thgl12, fhgl12, hgl12⟩ := hE.v3
 refine Af (Em isAgg93 hgl12) (k := ?_)
 refine A5 ?_
 refine C4 ?_
 refine wH ?_
 refine Rg ?_
 refine Aa results18 (Bw.agg isAgg41 sizeOf41 rfl me rfl z0) (fun w1 hw1 => ?_)
 exact ⟨(rq (((hF.neg hq1).neg hq5).pos hq9)), hw1.ext_out⟩

end Go.Proofs.YtdnjanhdnibkfaaGreatDoor.Jd

namespace Go.Proofs.YtdnjanhdnibkfaaGreatDoor.Jd
open Go.Proofs.Tryz
open Go.Proofs
open Go.RowKit (Below)
set_option maxRecDepth 100000
set_option maxHeartbeats 8000000
set_option linter.unusedVariables false
set_option linter.unusedSimpArgs false
def Lb (x : Ie) : List Value := [Value.bool x.allow, vi x.pfx.addr, vi x.pfx.bits, vi x.prt.lo, vi x.prt.hi]
theorem Hk : Ed Lb 5 := ⟨by omega, fun _ => rfl, fun _ => rfl⟩
theorem G5 (r k : Nat) {u : Value} (w : World) (h : w.cell? ⟨r, k + 0, none⟩ = some u) : (Go.method 530 200 (.pointer (some ⟨r, k, none⟩)) "Len").run Tryz.prog w = .ok (112, u) w := by
 have e : (Go.method 530 200 (.pointer (some ⟨r, k, none⟩)) "Len").run Tryz.prog w = (do let u ← loadVar 201 ⟨r, k + 0, none⟩; pure (112, u) : Sem (FuncId × Value)).run Tryz.prog w := by kernel_rfl
 rw [e]
 simp only [Sem.run_bind, Su isAgg201 h, Result.andThen_ok, Sem.run_pure]
theorem xQ (r k : Nat) {u : Value} (w : World) (h : w.cell? ⟨r, k + 0, none⟩ = some u) : (Go.method 530 200 (.pointer (some ⟨r, k, none⟩)) "Less").run Tryz.prog w = .ok (293, u) w := by
 have e : (Go.method 530 200 (.pointer (some ⟨r, k, none⟩)) "Less").run Tryz.prog w = (do let u ← loadVar 201 ⟨r, k + 0, none⟩; pure (293, u) : Sem (FuncId × Value)).run Tryz.prog w := by kernel_rfl
 rw [e]
 simp only [Sem.run_bind, Su isAgg201 h, Result.andThen_ok, Sem.run_pure]
theorem xR (v : Value) (w : World) : (Go.method 530 200 v "Push").run Tryz.prog w = .ok (294, v) w := by kernel_rfl
theorem xS (r k : Nat) {u : Value} (w : World) (h : w.cell? ⟨r, k + 0, none⟩ = some u) : (Go.method 530 200 (.pointer (some ⟨r, k, none⟩)) "Swap").run Tryz.prog w = .ok (296, u) w := by
 have e : (Go.method 530 200 (.pointer (some ⟨r, k, none⟩)) "Swap").run Tryz.prog w = (do let u ← loadVar 201 ⟨r, k + 0, none⟩; pure (296, u) : Sem (FuncId × Value)).run Tryz.prog w := by kernel_rfl
 rw [e]
 simp only [Sem.run_bind, Su isAgg201 h, Result.andThen_ok, Sem.run_pure]
theorem Qc (v : Value) (w : World) : (Go.method 530 207 v "wicketgate/acl.says").run Tryz.prog w = .ok (297, v) w := by kernel_rfl
theorem Qd (v : Value) (w : World) : (Go.method 530 209 v "wicketgate/acl.says").run Tryz.prog w = .ok (298, v) w := by kernel_rfl
theorem AN3 : Bl Tryz.prog 84 0 0 := fun r k w => by simp [Instr.fieldAt, Instr.sureAddr, fieldPlace, Bc]
theorem zL : Bl Tryz.prog 84 1 1 := fun r k w => by simp [Instr.fieldAt, Instr.sureAddr, fieldPlace, Bc]
theorem zM : Bl Tryz.prog 84 2 3 := fun r k w => by simp [Instr.fieldAt, Instr.sureAddr, fieldPlace, Bc]
theorem Vy : Bl Tryz.prog 199 0 0 := fun r k w => by simp [Instr.fieldAt, Instr.sureAddr, fieldPlace, Bc]
theorem bW : Bl Tryz.prog 203 0 0 := fun r k w => by simp [Instr.fieldAt, Instr.sureAddr, fieldPlace, Bc]
theorem V9 : Bl Tryz.prog 209 0 0 := fun r k w => by simp [Instr.fieldAt, Instr.sureAddr, fieldPlace, Bc]
theorem W0 : Bl Tryz.prog 209 1 5 := fun r k w => by simp [Instr.fieldAt, Instr.sureAddr, fieldPlace, Bc]
theorem xU : Fh Tryz.prog 199 [(0, 5)] := ⟨_, fun w => runUnderlying199 w, fun w => by simp⟩
theorem BA4 : Fh Tryz.prog 203 [(0, 1)] := ⟨_, fun w => runUnderlying203 w, fun w => by simp⟩
theorem BA5 : Fh Tryz.prog 207 [] := ⟨_, fun w => runUnderlying207 w, fun w => by simp⟩
theorem BA6 : Fh Tryz.prog 209 [(0, 5), (5, 1)] := ⟨_, fun w => runUnderlying209 w, fun w => by simp⟩
theorem AS1 : Ty Tryz.prog 84 5 40 (Value.agg [(Value.bool false), (vi 0), (vi 0), (vi 0), (vi 0)].toArray) := ⟨⟨Tryz.t84, by kernel_rfl, rfl, rfl, rfl⟩, rfl⟩
theorem kC {α : Type} {s zs : List α} {I n : Nat} {x : α} (hI : I ≤ s.length) (hn : n = s.length - I) (h1 : zs.take I = s.take I) (h2 : zs.length = s.length + 1) :
  (zs.take I ++ [x].take 1 ++ zs.drop (I + 1)).take (I + 1) ++ (s.drop I).take n ++ (zs.take I ++ [x].take 1 ++ zs.drop (I + 1)).drop (I + 1 + n) = Mz s I x := by
 subst hn
 have l1 : (s.take I).length = I := by rw [List.length_take]; omega
 have l2 : (s.take I ++ [x]).length = I + 1 := by simp [l1]
 have e1 : [x].take 1 = [x] := rfl
 have e3 : (s.drop I).take (s.length - I) = s.drop I := List.take_of_length_le Ij
 have e4 : (s.take I ++ [x] ++ zs.drop (I + 1)).drop (I + 1 + (s.length - I)) = [] := List.drop_eq_nil_of_le (by rw [List.length_append, l2, List.length_drop, h2]; omega)
 rw [h1, e1, e3, List.take_left' l2, e4]
 simp [Mz]
theorem dW {α : Type} {s : List α} {I n : Nat} {x : α} (hI : I < s.length) (hn : n = s.length - I) :
  (s.take (I + 1) ++ (s.drop I).take n ++ s.drop (I + 1 + n)).take I ++ [x].take 1 ++ (s.take (I + 1) ++ (s.drop I).take n ++ s.drop (I + 1 + n)).drop (I + 1) = Mz s I x := by
 subst hn
 have l1 : (s.take (I + 1)).length = I + 1 := by rw [List.length_take]; omega
 rw [List.drop_eq_nil_of_le (show s.length ≤ I + 1 + (s.length - I) by omega), List.append_nil, List.take_of_length_le (show (s.drop I).length ≤ s.length - I by simp), List.drop_left' l1, List.take_append_of_le_length z3, List.take_take, Nat.min_eq_left z3]
 simp [Mz]
theorem qK {α : Type} {s : List α} {i : Int} {x : α} (h : i = (s.length : Int)) : s ++ [x] = Mz s i.toNat x := by
 have : i.toNat = s.length := by omega
 rw [this, S2]
theorem kD {n : Int} {xs : List Int} {x : Int} (h : ∀ z ∈ xs, 0 ≤ z ∧ z < n) (hx : 0 ≤ x ∧ x < n) : ∀ z ∈ xs ++ [x], 0 ≤ z ∧ z < n := fun z hz => by
 rcases List.mem_append.1 hz with hz | hz
 ·exact h z hz
 ·rw [List.mem_singleton] at hz; subst hz; exact hx
theorem W1 {n : Int} {xs : List Int} {m : Nat} (h : ∀ z ∈ xs, 0 ≤ z ∧ z < n) (hm : m < xs.length) : 0 ≤ xs.getD m default ∧ xs.getD m default < n := by
 rw [List.getD_eq_getElem?_getD, List.getElem?_eq_getElem hm]; exact h _ (List.getElem_mem hm)
theorem W2 {n : Int} {xs : List Int} {i j : Nat} (h : ∀ z ∈ xs, 0 ≤ z ∧ z < n) (hi : i < xs.length) (hj : j < xs.length) : ∀ z ∈ ((xs.set i (xs.getD j default)).set j (xs.getD i default)), 0 ≤ z ∧ z < n :=
 S1 (p := fun z => 0 ≤ z ∧ z < n) h hi hj
theorem xV (w : World) {s_a : Option Addr} {s_c : Nat} {s : List Ie} (h_s : Sl w Lb 5 s_a s) (n_s : s.length ≤ 1000000) : Calls Tryz.prog 91 (List.toArray [(vs s_a s.length s_c)]) w fun e w2 => ∃ a1 : Option Addr, ∃ c1 : Nat, ∃ B1 : Av, e = .returned (vs a1 s.length c1) ∧ Ej w w2 B1 ∧ Bt Lb 5 84 a1 c1 B1 s := by
 have hF := Is.refl s
 refine enter func91 ntmps91 (h := ?_)
 refine Lj ?_
 refine Af (gP runUnderlying47) (k := ?_)
 refine Z0 ?_
 refine Dl rfl (fun hq1 => ?_) (fun hq1 => ?_)
 ·refine Cb ?_
  refine Lk ?_
  refine Aa results91 z0 (fun w1 hw1 => ?_)
  have hcan0 : ([] : List Ie) = s := by (first | rfl | (exact Kl h_s z53))
  have hlen0 : 0 = s.length := by first | (rw [← hcan0]; done) | (rw [← hcan0]; first | rfl | (simp; done) | (simp only [List.length_append, List.length_take, List.length_drop, List.length_set, List.length_replicate, List.length_cons, List.length_nil, List.length_map, Di, Cw]; omega) | (simp; omega))
  exact ⟨none, 0, [], zY, (hw1.fresh_out.sub Mo), (hcan0 ▸ Bt.nil)⟩
 refine Ua ?_
 refine Ak Ag (Ea (l := []) runUnderlying47 sizeOf84 zeroValue84) (k := fun r1 hr1 => ?_)
 refine Ck ?_
 refine Bb s (List.nil_append _) AS1 underlying47 Hk Bt.nil (List.Perm.refl _) (Cl.of_base h_s) ⟨by omega, by omega⟩ (n := 0) (m := s.length) (k := fun ax1 cx1 Bx1 hox1 => ?_)
 refine Z4 ?_
 refine Aa results91 z0 (fun w1 hw1 => ?_)
 have hcan0 : s = s := by (first | rfl | (exact Kl h_s z53))
 have hlen0 : s.length = s.length := by first | (rw [← hcan0]; done) | (rw [← hcan0]; first | rfl | (simp; done) | (simp only [List.length_append, List.length_take, List.length_drop, List.length_set, List.length_replicate, List.length_cons, List.length_nil, List.length_map, Di, Cw]; omega) | (simp; omega))
 exact ⟨ax1, cx1, Bx1, zY, (Ax (L := Bx1) (hw1.perm (List.Perm.refl _)) rfl.symm), (hcan0 ▸ hox1)⟩

theorem BA7 (w : World) {a : Option Addr} {c : Nat} {B : Av} {xs : List Int} (ho : Bt eI 1 3 a c B xs) (hB : ∀ p ∈ B, w.heap[p.1]? = some p.2) {i j : Int} (hi : 0 ≤ i ∧ i < xs.length) (hj : 0 ≤ j ∧ j < xs.length) (hn : xs.length < 4611686018427387904) :
  Calls Tryz.prog 296 (List.toArray [.slice a xs.length c, .int .i64 i, .int .i64 j]) w fun e w2 => ∃ B2, e = .returned (.tuple [].toArray) ∧ Tr w w2 B B2 ∧ Bt eI 1 3 a c B2 ((xs.set i.toNat (xs.getD j.toNat default)).set j.toNat (xs.getD i.toNat default)) := by
 obtain ⟨i, rfl⟩ := Int.eq_ofNat_of_zero_le hi.1
 obtain ⟨j, rfl⟩ := Int.eq_ofNat_of_zero_le hj.1
 have hi : i < xs.length := by omega
 have hj : j < xs.length := by omega
 simp only [Int.ofNat_eq_natCast, Int.toNat_natCast]
 have hsl := ho.sl Ba hB
 rcases ho with ⟨rfl, rfl, rfl⟩ | ⟨r, cur, fz, rfl, rfl, hfz, h1, h2, h3⟩
 ·simp at hi
 ·have hh : w.heap[r]? = some (.cells cur 3 fz) := hB _ List.mem_cons_self
  have hc : ∀ k, k < xs.length → w.cell? ⟨r, 0 + k, none⟩ = some (.int .i64 (xs.getD k default)) := fun k hk => by
   obtain ⟨b, off, he, _, h4⟩ := hsl k _ (gD hk)
   cases he
   have := h4 0 _ rfl
   simpa using this
  have hf : ∀ k, k < xs.length → w.frozen? ⟨r, 0 + k, none⟩ = false := fun k hk => hfz.not hh z3
  refine (Tryz.IntSlice_Swap r 0 c xs.length w (xs.getD i default) (xs.getD j default) i j hi hj hn (hc i hi) (hc j hj) (hf i hi) (hf j hj)).mono fun e w2 ⟨he, q, hw⟩ => ?_
  rw [setCell_eq_setRow w r (0 + i) cur _ fz _ hh, setCell_eq_setRow _ r (0 + j) _ _ fz _ (setRow_heap w r cur _ _ _ hh)] at hw
  refine ⟨[(r, .cells ((cur.setIfInBounds (0 + i) (.int .i64 (xs.getD j default))).setIfInBounds (0 + j) (.int .i64 (xs.getD i default))) 3 fz)], he, ?_, ?_⟩
  ·subst hw
   have t1 := dH (cur' := cur.setIfInBounds (0 + i) (.int .i64 (xs.getD j default))) hh
   have t2 := dH (cur' := (cur.setIfInBounds (0 + i) (.int .i64 (xs.getD j default))).setIfInBounds (0 + j) (.int .i64 (xs.getD i default))) (setRow_heap w r cur (cur.setIfInBounds (0 + i) (.int .i64 (xs.getD j default))) 3 fz hh)
   have t3 := t1.trans t2
   exact ⟨t3.os, t3.tape, t3.output, t3.size, t3.same, t3.own, t3.key, t3.nd⟩
  ·refine Bt.fullF (by simpa using hfz) (by simpa using h1) (by simpa using h2) ?_
   have hflat : ∀ l : List Int, Ex eI l = l.map (Value.int .i64) := fun l => by
    induction l with
    | nil => rfl
    | cons x r ih => simp only [Ex, eI, List.map_cons, List.flatten_cons] at *; rw [ih]; rfl
   rw [hflat] at h3 ⊢
   simp only [List.length_set, Nat.mul_one, Nat.zero_add, Array.toList_setIfInBounds] at h3 ⊢
   rw [List.take_set, List.take_set, h3, List.map_set, List.map_set]
theorem nK (w : World) {r : Ie} : Ha Tryz.prog 109 [(Value.agg [(Value.bool r.allow), (vi r.pfx.addr), (vi r.pfx.bits), (vi r.prt.lo), (vi r.prt.hi)].toArray)] w (Value.bool (qC r)) := by
 have hF := Is.refl (qC r)
 refine enter func109 ntmps109 (h := ?_)
 refine Z2 ?_
 refine Ak Ag mH (k := fun r1 hr1 => ?_)
 refine Kt ?_
 refine Af (Al Vy) (k := ?_)
 refine Af (Al zL) (k := ?_)
 refine Af (Ch isAgg80 sizeOf80) (k := ?_)
 refine Cy (Ac call166) (fun w1 hw1 => nG w1 (p := r.pfx)) (k := ?_)
 refine Ck ?_
 refine Bo 7 rfl (fun hq1 => ?_) (fun hq1 => ?_)
 rotate_left
 ·refine Ab 4 rfl ?_
  refine Hz ?_
  refine Aa results109 z0 (fun w1 hw1 => ?_)
  exact ⟨(rq (hF.f hq1)), hw1.ext_out⟩
 have hfhq1 := uC hq1
 refine Ar (Al Vy) (k := ?_)
 refine Ar (Al zM) (k := ?_)
 refine Ar (Ch isAgg82 sizeOf82) (k := ?_)
 refine Kj (Ac call167) (fun w1 hw1 => nH w1 (p := r.prt)) (k := ?_)
 refine Ot ?_
 refine Aa results109 z0 (fun w1 hw1 => ?_)
 exact ⟨(rq (hF.t hq1)), hw1.ext_out⟩

theorem uK (w : World) {r : Ie} {t : Cd} : Ha Tryz.prog 170 [(Value.agg [(Value.bool r.allow), (vi r.pfx.addr), (vi r.pfx.bits), (vi r.prt.lo), (vi r.prt.hi)].toArray), (Value.agg [(vi t.addr), (vi t.port)].toArray)] w (Value.bool (Gj r t)) := by
 have hF := Is.refl (Gj r t)
 refine enter func170 ntmps170 (h := ?_)
 refine Z2 ?_
 refine Ak Ag mH (k := fun r1 hr1 => ?_)
 refine Ak Ag rB (k := fun r2 hr2 => ?_)
 refine Kt ?_
 refine Af (Ch isAgg199 sizeOf199) (k := ?_)
 refine Cy (Ac call109) (fun w1 hw1 => nK w1 (r := r)) (k := ?_)
 refine Ck ?_
 refine Bo 7 rfl (fun hq1 => ?_) (fun hq1 => ?_)
 rotate_left
 ·refine Ab 6 rfl ?_
  refine Z5 ?_
  refine Ab 6 rfl ?_
  refine Hz ?_
  refine Aa results170 z0 (fun w1 hw1 => ?_)
  exact ⟨(rq (hF.f hq1)), hw1.ext_out⟩
 refine Ar (Al Vy) (k := ?_)
 refine Ar (Al zL) (k := ?_)
 refine Ar (Ch isAgg80 sizeOf80) (k := ?_)
 refine Ar (Al zK) (k := ?_)
 refine Qt ?_
 refine Kj (Ac call221) (fun w1 hw1 => AN1 w1 (p := r.pfx) (a := t.addr)) (k := ?_)
 refine Jh ?_
 refine Bo 15 rfl (fun hq2 => ?_) (fun hq2 => ?_)
 rotate_left
 ·refine Ab 6 rfl ?_
  refine Hz ?_
  refine Aa results170 z0 (fun w1 hw1 => ?_)
  exact ⟨(rq ((hF.t hq1).f hq2)), hw1.ext_out⟩
 refine Ar (Al Vy) (k := ?_)
 refine Ar (Al zM) (k := ?_)
 refine Ar (Ch isAgg82 sizeOf82) (k := ?_)
 refine Ar (Al hX) (k := ?_)
 refine Qt ?_
 refine Kj (Ac call222) (fun w1 hw1 => AN2 w1 (p := r.prt) (n_ := t.port)) (k := ?_)
 refine Ot ?_
 refine Aa results170 z0 (fun w1 hw1 => ?_)
 exact ⟨(rq ((hF.t hq1).t hq2)), hw1.ext_out⟩

theorem eQ (w : World) {l_a : Option Addr} {l_c : Nat} {l : List Ie} (h_l : Sl w Lb 5 l_a l) (n_l : l.length ≤ 1000) : Ha Tryz.prog 56 [(vs l_a l.length l_c)] w (Value.bool (Jw l)) := by
 have hF := Is.refl (Jw l)
 refine enter func56 ntmps56 (h := ?_)
 refine Mq ?_
 refine Af (Fg runUnderlying47) (k := ?_)
 refine lK ?_
 refine Ao 6 rfl (fun hq1 => ?_) (fun hq1 => ?_)
 rotate_left
 ·refine Ab 3 rfl ?_
  refine Hz ?_
  refine Aa results56 z0 (fun w1 hw1 => ?_)
  exact ⟨(rq (hF.neg hq1)), hw1.ext_out⟩
 refine El ?_
 refine mL Ag (Ea (l := [_]) runUnderlying262 sizeOf197 zeroValue197) (k := fun r1 hr1 => ?_)
 refine bB (args := [_, _]) (Ac call108) func108 ntmps108 ?_
 refine Lj ?_
 refine Af (Fg runUnderlying47) (k := ?_)
 refine Rh ?_
 refine Jj (σ1 := Nat) (σ2 := Nat) (fun n_2 x_1 => ((r1, oc [(Value.func (.func 109) [].toArray [].toArray)] 197) :: [])) (fun n_2 x_1 => [(1, (vs (some ⟨r1, 0, none⟩) 1 1)), (4, (Value.bool false)), (9, (vs l_a l.length l_c)), (10, (vi ((l.length : Nat) : Int))), (11, (vi ((x_1 : Nat) : Int)))]) (fun n_2 x_1 => l.length - x_1 < n_2 ∧ Is (Qn l (l.length + 1) 0) (Qn l n_2 x_1) ∧ x_1 ≤ l.length) (fun n_2 x_1 => n_2) (l.length + 1) 0 ?_ se (List.Perm.refl _) ?_
 ·exact ⟨Nat.lt_succ_self _, Is.refl _, z7⟩
 ·rintro (_ | n_2) x_1 ⟨hm4, hF3, hi5⟩
  ·omega
  refine Zy ?_
  refine Bi rfl (fun hq2 => ?_) (fun hq2 => ?_)
  rotate_left
  ·refine Cu ?_
   refine Ia ?_
   refine Yp ?_
   refine Bd results108 z0 ?_
   refine Ot ?_
   refine Aa results56 z0 (fun w1 hw1 => ?_)
   exact ⟨(rq ((hF.pos hq1).ok1 (hF3.neg hq2))), hw1.ext_out⟩
  refine dD ?_
  refine Af (Cz (n := l.length) runUnderlying47 sizeOf84 x_1 eH (gD z4) Kc) (k := ?_)
  refine Af (Gt isAgg84 sizeOf84 x_1 eH (gD z4)) (k := ?_)
  refine Ak Ag (Cj (l := [_, _, _, _, _]) zeroValue84) (k := fun r2 hr2 => ?_)
  refine Ep (Bn (l' := [_, _, _, _, _]) sizeOf84) (k := ?_)
  refine Lr ?_
  refine Af (Fg runUnderlying262) (k := ?_)
  refine lO ?_
  refine Af (Ei runUnderlying262 sizeOf197 0) (k := ?_)
  refine Af (Bm isAgg197) (k := ?_)
  refine Hq ?_
  refine Af (Ch isAgg84 sizeOf84) (k := ?_)
  refine Af (Cx (cs := [_, _, _, _, _]) zeroValue199 xU) (k := ?_)
  refine Cy (Ac call109) (fun w1 hw1 => nK w1 (r := (l.getD x_1 default))) (k := ?_)
  refine Rf ?_
  refine Dl rfl (fun hq3 => ?_) (fun hq3 => ?_)
  ·refine Cb ?_
   refine Cp ?_
   refine fI ?_
   refine Ph ?_
   refine Rm ?_
   refine mI ?_
   refine Bd results108 z0 ?_
   refine Ot ?_
   refine Aa results56 z0 (fun w1 hw1 => ?_)
   exact ⟨(rq ((hF.pos hq1).er1 ((hF3.pos hq2).t hq3))), hw1.ext_out⟩
  refine Cg ?_
  refine fF ?_
  refine Z53 ?_
  refine Ux ?_
  refine Dt _ (qa q0) ?_
  refine Cn _ (List.Sublist.cons_cons _ Mo) ?_
  exact Hu n_2 (x_1 + 1) ⟨by omega, ((hF3.pos hq2).f hq3), z3⟩ (Nat.lt_succ_self _) se (List.Perm.refl _)

theorem bX (w : World) {l_a : Option Addr} {l_c : Nat} {ea0 : Addr} {ea1 : Addr} {ea2 : Addr} {ea3 : Addr} {ea4 : Addr} {ea5 : Addr} {ea6 : Addr} {ea7 : Addr} {ea8 : Addr} {ea9 : Addr} {ea10 : Addr} {ea11 : Addr} {ea12 : Addr} {ea13 : Addr} {ea14 : Addr} {ea15 : Addr} {l : List Ie} {t : Cd} (h_l : Sl w Lb 5 l_a l) (n_l : l.length ≤ 1000) (hG : Gl w) (hE : Er w ea0 ea1 ea2 ea3 ea4 ea5 ea6 ea7 ea8 ea9 ea10 ea11 ea12 ea13 ea14 ea15) : Ha Tryz.prog 19 [(vs l_a l.length l_c), (Value.agg [(vi t.addr), (vi t.port)].toArray)] w (Value.tuple [(Value.bool ((Ek l t).1)), (vi ((Ek l t).2.1)), (vi ((Ek l t).2.2))].toArray) := by
 have hF := Is.refl (Ek l t)
 refine enter func19 ntmps19 (h := ?_)
 refine Z2 ?_
 refine Ak Ag rB (k := fun r1 hr1 => ?_)
 refine Mr ?_
 refine D4 ?_
 refine Cy (Ac call56) (fun w1 hw1 => eQ w1 (l := l) (h_l := (Cl.of_base h_l) w1 hw1) (n_l := Ng)) (k := ?_)
 refine Rf ?_
 refine Dl rfl (fun hq1 => ?_) (fun hq1 => ?_)
 ·refine Cb ?_
  refine Cp ?_
  obtain ⟨Thgl2, fhgl2, hgl2⟩ := hE.v4
  refine wG ?_
  refine Bq (args := [_]) (Ac call57) func57 ntmps57 ?_
  refine Xv ?_
  refine Ib ?_
  obtain ⟨Thgl3, fhgl3, hgl3⟩ := hE.v4
  refine sO ?_
  refine Cy (args := [(Value.iface 400 (.pointer (some ea4))), (Value.iface 400 (.pointer (some ea4)))]) (Ac call81) (fun w1 hw1 => Ih w1) (k := ?_)
  refine Z1 ?_
  refine aD ?_
  refine Bd results57 z0 ?_
  refine Mr ?_
  refine Nh ?_
  refine Aa results19 (Bw.tmp rfl (Bw.tmp rfl z0)) (fun w1 hw1 => ?_)
  exact ⟨(rq (hF.t hq1)), hw1.ext_out⟩
 refine Yq ?_
 refine AH9 ?_
 refine Bq (args := [_]) (Ac call58) func58 ntmps58 ?_
 refine Z2 ?_
 refine Ak Ag rB (k := fun r2 hr2 => ?_)
 refine Ik ?_
 refine AH9 ?_
 refine Cy (Ac call54) (fun w1 hw1 => nI w1 (t := t) (hG := hG.ext hw1.ext_out) (hE := hE.ext hw1.ext_out)) (k := ?_)
 refine Kf ?_
 refine Lq ?_
 refine Z3 ?_
 refine cU ?_
 refine Bi rfl (fun hq4 => ?_) (fun hq4 => ?_)
 ·refine Cb ?_
  refine Cp ?_
  obtain ⟨Thgl5, fhgl5, hgl5⟩ := hE.v10
  refine D6 ?_
  refine Rg ?_
  refine Bd results58 z0 ?_
  refine Hq ?_
  refine Af (bD (u := (Value.iface 400 (.pointer (some ea10)))) (v := Value.nilIface) (b := true) (fun w => by kernel_rfl)) (k := ?_)
  refine Z0 ?_
  refine Tv ?_
  refine Bq (args := [_]) (Ac call57) func57 ntmps57 ?_
  refine Xv ?_
  refine Ib ?_
  obtain ⟨Thgl6, fhgl6, hgl6⟩ := hE.v4
  refine sP ?_
  refine Cy (args := [(Value.iface 400 (.pointer (some ea10))), (Value.iface 400 (.pointer (some ea4)))]) (Ac call81) (fun w1 hw1 => Jb w1 hE.n10_4 (hE.ext hw1.ext_out).b10 (hE.ext hw1.ext_out).b4) (k := ?_)
  refine Z1 ?_
  refine Va ?_
  obtain ⟨Thgl7, fhgl7, hgl7⟩ := hE.v8
  refine wF ?_
  refine Cy (args := [(Value.iface 400 (.pointer (some ea10))), (Value.iface 400 (.pointer (some ea8)))]) (Ac call81) (fun w1 hw1 => Jb w1 hE.n10_8 (hE.ext hw1.ext_out).b10 (hE.ext hw1.ext_out).b8) (k := ?_)
  refine Z1 ?_
  refine Va ?_
  obtain ⟨Thgl8, fhgl8, hgl8⟩ := hE.v9
  refine D5 ?_
  refine Cy (args := [(Value.iface 400 (.pointer (some ea10))), (Value.iface 400 (.pointer (some ea9)))]) (Ac call81) (fun w1 hw1 => Jb w1 hE.n10_9 (hE.ext hw1.ext_out).b10 (hE.ext hw1.ext_out).b9) (k := ?_)
  refine Z1 ?_
  refine Va ?_
  obtain ⟨Thgl9, fhgl9, hgl9⟩ := hE.v10
  refine Af (Em isAgg93 hgl9) (k := ?_)
  refine Cy (args := [(Value.iface 400 (.pointer (some ea10))), (Value.iface 400 (.pointer (some ea10)))]) (Ac call81) (fun w1 hw1 => Ih w1) (k := ?_)
  refine Z1 ?_
  refine aD ?_
  refine Bd results57 z0 ?_
  refine Mr ?_
  refine Nh ?_
  refine Aa results19 (Bw.tmp rfl (Bw.tmp rfl z0)) (fun w1 hw1 => ?_)
  exact ⟨(rq ((hF.f hq1).pos hq4)), hw1.ext_out⟩
 refine Py ?_
 refine Yp ?_
 refine Bd results58 z0 ?_
 refine Hq ?_
 refine L3 ?_
 refine Rk ?_
 refine Z3 ?_
 refine sQ ?_
 refine bA (args := [_, _]) (Ac call59) func59 ntmps59 ?_
 refine Z2 ?_
 refine Ak Ag rB (k := fun r3 hr3 => ?_)
 refine Kt ?_
 refine Af (Cx (cs := [_]) zeroValue203 BA4) (k := ?_)
 refine Ak Ag z31 (k := fun r4 hr4 => ?_)
 refine Ak Ag (Cj (l := [_]) zeroValue200) (k := fun r5 hr5 => ?_)
 refine Ep (Bn (l' := [_]) sizeOf200) (k := ?_)
 refine Jr ?_
 refine Z3 ?_
 refine sQ ?_
 refine Bq (args := [_, _]) (Ac call110) func110 ntmps110 ?_
 refine Z2 ?_
 refine Ak Ag z31 (k := fun r6 hr6 => ?_)
 refine Ak Ag rB (k := fun r7 hr7 => ?_)
 refine aE ?_
 refine Bd results110 z0 ?_
 refine Nj ?_
 refine E6 Ag rfl call168 func168 ntmps168 (fun l8 rD8 rr8 hl8 => ?_)
 refine Z2 ?_
 refine Ak Ag z31 (k := fun r9 hr9 => ?_)
 refine Z0 ?_
 refine fR ?_
 refine Af (Bm isAgg47) (k := ?_)
 refine Bq (args := [_]) (Ac call169) func169 ntmps169 ?_
 refine Z2 ?_
 refine Ak Ag z31 (k := fun r10 hr10 => ?_)
 refine aE ?_
 refine Bd results169 z0 ?_
 refine Nj ?_
 refine Fx Ag rfl call220 func220 ntmps220 (fun l11 rD11 rr11 hl11 => ?_)
 refine Z2 ?_
 refine Af (Bm isAgg47) (k := ?_)
 refine Af (Fg runUnderlying47) (k := ?_)
 refine Xi ?_
 refine Z1 ?_
 refine Gr ?_
 refine Ml (σ1 := Nat) (σ2 := Int) (σ3 := List Int) (σ4 := Option Addr) (σ5 := Nat) (σ6 := Av) (fun n_3 i_1 x_2 x_2a x_2c x_2B => (x_2B ++ ((l11, Cr rr11 .ready none) :: ((rD11, Obj.deferred (some [])) :: ((r10, oc [(vs l_a l.length l_c)] 47) :: ((r9, oc [(Value.func (.yield l8) [].toArray [].toArray)] 133) :: ((l8, Cr rr8 .ready none) :: ((rD8, Obj.deferred (some [])) :: ((r7, oc [(vi t.addr), (vi t.port)] 41) :: ((r6, oc [(vs l_a l.length l_c)] 47) :: ((r5, oc [(Value.pointer (some ⟨r4, 0, none⟩))] 200) :: ((r4, oc [(vs x_2a x_2.length x_2c)] 203) :: ((r3, oc [(vi t.addr), (vi t.port)] 41) :: ((r2, oc [(vi t.addr), (vi t.port)] 41) :: ((r1, oc [(vi t.addr), (vi t.port)] 41) :: []))))))))))))))) (fun n_3 i_1 x_2 x_2a x_2c x_2B => [(0, (Value.func (.yield l11) [].toArray [].toArray)), (1, (Value.pointer (some ⟨r10, 0, none⟩))), (3, (vi i_1))]) (fun n_3 i_1 x_2 x_2a x_2c x_2B => (i_1 + 1).toNat < n_3 ∧ Is (Gw l t (((((l.length : Nat) : Int) - 1) + 1).toNat + 1) (((l.length : Nat) : Int) - 1) []) (Gw l t n_3 i_1 x_2) ∧ Bt eI 1 3 x_2a x_2c x_2B x_2 ∧ (-1 ≤ i_1 ∧ i_1 < l.length) ∧ x_2.length + i_1 + 1 ≤ l.length ∧ (∀ z ∈ x_2, 0 ≤ z ∧ z < l.length)) (fun n_3 i_1 x_2 x_2a x_2c x_2B => n_3) (((((l.length : Nat) : Int) - 1) + 1).toNat + 1) (((l.length : Nat) : Int) - 1) ([]) none 0 ([]) ?_ se (List.Perm.refl _) ?_
 ·exact ⟨Nat.lt_succ_self _, Is.refl _, Bt.nil, (by first | omega | (simp; done) | (simp; omega) | (intro z hz; cases hz)), (by first | omega | (simp; done) | (simp; omega) | (intro z hz; cases hz)), (by first | omega | (simp; done) | (simp; omega) | (intro z hz; cases hz))⟩
 ·rintro (_ | n_3) i_1 x_2 x_2a x_2c x_2B ⟨hm5, hF4, hx_2, hi6, hi7, hi8⟩
  ·omega
  refine AF1 ?_
  refine Bi rfl (fun hq10 => ?_) (fun hq10 => ?_)
  rotate_left
  ·refine Cu ?_
   refine Z53 ?_
   refine Gh (.inr rfl) results220 (qc q0) ?_
   refine Fr ?_
   refine tD ?_
   refine AK7 [rD11] (qa (qc q0)) (.inr rfl) results168 (qa (qc (qa (qa q0)))) ?_
   refine kX ?_
   refine Eu ?_
   refine Z2 ?_
   refine Af (Bm isAgg200) (k := ?_)
   refine Si ?_
   refine Af (Al bW) (k := ?_)
   refine Af (Bm isAgg201) (k := ?_)
   refine Bq (args := [_]) (Ac call112) func112 ntmps112 ?_
   refine Mq ?_
   refine Af (Fg runUnderlying201) (k := ?_)
   refine Z4 ?_
   refine Bd results112 z0 ?_
   refine iP ?_
   refine Bi rfl (fun hq14 => ?_) (fun hq14 => ?_)
   ·refine Cb ?_
    refine Cp ?_
    refine Af (Cx (cs := []) zeroValue207 BA5) (k := ?_)
    refine Af (mW underlying207) (k := ?_)
    refine Rg ?_
    refine Kx [rD8] (qa (qa (qc (qa (qa q0))))) results59 z0 ?_
    refine Bq (args := [_]) (Rs z2 (fun w1 hw1 => Qc _ w1) call297) func297 ntmps297 ?_
    refine Z2 ?_
    refine Ak Ag (Lo (l := [])) (k := fun r14 hr14 => ?_)
    refine Lq ?_
    refine Z2 ?_
    refine aC ?_
    refine Bd results297 (Bw.tmp rfl z0) ?_
    refine Kf ?_
    refine cZ ?_
    refine Mr ?_
    refine aC ?_
    refine Aa results19 (Bw.tmp rfl (Bw.tmp rfl z0)) (fun w1 hw1 => ?_)
    exact ⟨(rq ((((hF.f hq1).neg hq4).rn2 (hF4.neg hq10)).pos hq14)), hw1.ext_out⟩
   refine Ua ?_
   refine Af (Bm isAgg200) (k := ?_)
   refine Si ?_
   refine Af (Al bW) (k := ?_)
   refine Af (Bm isAgg201) (k := ?_)
   refine Af (Cz (n := x_2.length) runUnderlying201 sizeOf3 0 (hx_2.slj Ba) (gD z4) Kc) (k := ?_)
   refine Af (Ci isAgg3 0 0 (hx_2.slj Ba) (gD z4)) (k := ?_)
   refine Ji ?_
   have hat : 0 ≤ x_2.getD 0 default ∧ x_2.getD 0 default < (l.length : Int) := W1 z53 z3
   refine Af (Cz (n := l.length) runUnderlying47 sizeOf84 ((x_2.getD 0 default).toNat) eH (gD z4) Kc) (k := ?_)
   refine Af (Gt isAgg84 sizeOf84 ((x_2.getD 0 default).toNat) eH (gD z4)) (k := ?_)
   refine Af (Cx (cs := [_, _, _, _, _]) zeroValue199 xU) (k := ?_)
   refine Ck ?_
   refine Af (Cx (cs := [_, _, _, _, _, _]) zeroValue209 BA6) (k := ?_)
   refine Af (mW underlying209) (k := ?_)
   refine Z4 ?_
   refine Kx [rD8] (qa (qa (qc (qa (qa q0))))) results59 z0 ?_
   refine Bq (args := [_]) (Rs z2 (fun w1 hw1 => Qd _ w1) call298) func298 ntmps298 ?_
   refine Z2 ?_
   refine Ak Ag J2 (k := fun r15 hr15 => ?_)
   refine Mr ?_
   refine Ik ?_
   refine Eh mixed 8 [(true, 0), (true, 1), (true, 2), (true, 3), (true, 4), (true, 5), (true, 6), (true, 7)] z2 ?_
   refine Be (Al V9) (k := ?_)
   refine Be (Al Vy) (k := ?_)
   refine Be (Al AN3) (k := ?_)
   refine Be (Bm isAgg4) (k := ?_)
   refine Be (Al W0) (k := ?_)
   refine Yr ?_
   refine aJ ?_
   refine Z83 ?_
   refine Bd results298 (Bw.tmp rfl z0) ?_
   refine Kf ?_
   refine cZ ?_
   refine Mr ?_
   refine aC ?_
   refine Aa results19 (Bw.tmp rfl (Bw.tmp rfl z0)) (fun w1 hw1 => ?_)
   exact ⟨(rq ((((hF.f hq1).neg hq4).rn2 (hF4.neg hq10)).neg hq14)), hw1.ext_out⟩
  refine lL ?_
  refine Hp ?_
  refine Af (Bm isAgg47) (k := ?_)
  refine Ck ?_
  refine Af (Cz (n := l.length) runUnderlying47 sizeOf84 i_1.toNat eH (gD z4) Kc) (k := ?_)
  refine Af (Gt isAgg84 sizeOf84 i_1.toNat eH (gD z4)) (k := ?_)
  refine Ly (vs := [(vi i_1), (Value.agg [(Value.bool ((l.getD i_1.toNat default).allow)), (vi ((l.getD i_1.toNat default).pfx.addr)), (vi ((l.getD i_1.toNat default).pfx.bits)), (vi ((l.getD i_1.toNat default).prt.lo)), (vi ((l.getD i_1.toNat default).prt.hi))].toArray)]) hl11 (qc q0) Dw ?_
  refine Xv ?_
  refine Cp ?_
  refine Ak Ag (Cj (l := [_, _, _, _, _]) zeroValue84) (k := fun r12 hr12 => ?_)
  refine Ep (Bn (l' := [_, _, _, _, _]) sizeOf84) (k := ?_)
  refine Dz ?_
  refine K2 ?_
  refine Z2 ?_
  refine Af (Ch isAgg84 sizeOf84) (k := ?_)
  refine Af (Cx (cs := [_, _, _, _, _]) zeroValue199 xU) (k := ?_)
  refine sQ ?_
  refine Cy (Ac call170) (fun w1 hw1 => uK w1 (r := (l.getD i_1.toNat default)) (t := t)) (k := ?_)
  refine Ck ?_
  refine Bo 14 rfl (fun hq11 => ?_) (fun hq11 => ?_)
  rotate_left
  ·refine Ab 4 rfl ?_
   refine Pe ?_
   refine Zz ?_
   refine Fr ?_
   refine Fu q0 ?_
   refine Rf ?_
   refine Zz ?_
   refine cS ?_
   refine Xi ?_
   refine Mj ?_
   refine Dt _ ((((((((((((((qa (qa (qc (qa (qa (qa (qa (qa (qa (qa (qa (qa (qa (qa q0)))))))))))))).trans (qa (qa (qa (qc (qa (qa (qa (qa (qa (qa (qa (qa (qa (qa q0))))))))))))))).trans (qa (qa (qa (qa (qc (qa (qa (qa (qa (qa (qa (qa (qa (qa q0))))))))))))))).trans (qa (qa (qa (qa (qa (qc (qa (qa (qa (qa (qa (qa (qa (qa q0))))))))))))))).trans (qa (qa (qa (qa (qa (qa (qc (qa (qa (qa (qa (qa (qa (qa q0))))))))))))))).trans (qa (qa (qa (qa (qa (qa (qa (qc (qa (qa (qa (qa (qa (qa q0))))))))))))))).trans (qa (qa (qa (qa (qa (qa (qa (qa (qc (qa (qa (qa (qa (qa q0))))))))))))))).trans (qa (qa (qa (qa (qa (qa (qa (qa (qa (qc (qa (qa (qa (qa q0))))))))))))))).trans (qa (qa (qa (qa (qa (qa (qa (qa (qa (qa (qc (qa (qa (qa q0))))))))))))))).trans (qa (qa (qa (qa (qa (qa (qa (qa (qa (qa (qa (qc (qa (qa q0))))))))))))))).trans (qa (qa (qa (qa (qa (qa (qa (qa (qa (qa (qa (qa (qc (qa q0))))))))))))))).trans (qa (qa (qa (qa (qa (qa (qa (qa (qa (qa (qa (qa (qa (qc q0))))))))))))))).trans (qa (qa (qa (qa (qa (qa (qa (qa (qa (qa (qa (qa q0))))))))))))).trans (qb (qb (qb (qb (qb (qb (qb (qb (qb (qb (qb (qb (qb (qb q0))))))))))))))) ?_
   refine BH7 ?_
   exact Hv n_3 (i_1 - 1) x_2 x_2a x_2c x_2B ⟨by omega, ((hF4.pos hq10).f hq11), hx_2, z3, z69, z53⟩ (Nat.lt_succ_self _) se (List.Perm.refl _)
  refine Ar (Bm isAgg133) (k := ?_)
  refine El ?_
  refine Ev (vs := [(vi i_1)]) hl8 (qa (qa (qc (qa (qa (qa q0)))))) Dw ?_
  refine Cp ?_
  refine Mj ?_
  refine cV ?_
  refine Cp ?_
  refine Af (Bm isAgg200) (k := ?_)
  refine Af (mW underlying200) (k := ?_)
  refine Ck ?_
  refine Af (mW underlying3) (k := ?_)
  refine Bq (args := [_, _]) (Ac call111) func111 ntmps111 ?_
  refine Hp ?_
  refine Bq (args := [_, _]) (Rs z2 (fun w1 hw1 => xR _ w1) call294) func294 ntmps294 ?_
  refine Z3 ?_
  refine Af (xD underlying3) (k := ?_)
  refine Kf ?_
  refine Lq ?_
  refine Z3 ?_
  refine Z0 ?_
  refine Ku rfl ?_
  refine Sd ?_
  refine Si ?_
  refine Af (Al bW) (k := ?_)
  refine Af (Bm isAgg201) (k := ?_)
  refine Ck ?_
  refine Ak Ag (Ea (l := [_]) runUnderlying201 sizeOf3 zeroValue3) (k := fun r13 hr13 => ?_)
  refine Bb (x_2 ++ ([i_1] : List Int)) rfl Fq underlying201 Ba hx_2 (qb (qb (qb (qb q0)))) (Cl.lit (xs := ([i_1] : List Int)) Ba) ⟨by omega, by omega⟩ (n := x_2.length) (m := 1) (k := fun ax1 cx1 Bx1 hox1 => ?_)
  have hal1 : (x_2 ++ ([i_1] : List Int)).length = x_2.length + 1 := by first | rfl | exact List.length_append | simp
  refine Si ?_
  refine Af (Al bW) (k := ?_)
  refine Ep (Bn (l' := [_]) sizeOf201) (k := ?_)
  refine Dz ?_
  refine Dj results294 Bw.nil ?_
  refine Z0 ?_
  refine Sd ?_
  refine Bq (args := [_]) (Rs z2 (fun w1 hw1 => G5 r4 0 (u := (vs ax1 ((x_2 ++ ([i_1] : List Int)).length) cx1)) w1 (hw1.cell (k := 0) me rfl)) call112) func112 ntmps112 ?_
  refine Mq ?_
  refine Af (Fg runUnderlying201) (k := ?_)
  refine Z4 ?_
  refine Bd results112 z0 ?_
  refine Xi ?_
  refine Bq (args := [_, _]) (Ac call171) func171 ntmps171 ?_
  refine Gr ?_
  refine Ml (σ1 := Nat) (σ2 := Int) (σ3 := List Int) (σ4 := Option Addr) (σ5 := Nat) (σ6 := Av) (fun n_11 j_9 x_10 x_10a x_10c x_10B => (x_10B ++ ((r13, oc [(vi i_1)] 3) :: ((l8, Cr rr8 .busy none) :: ((l11, Cr rr11 .busy none) :: ((r12, oc [(Value.bool ((l.getD i_1.toNat default).allow)), (vi ((l.getD i_1.toNat default).pfx.addr)), (vi ((l.getD i_1.toNat default).pfx.bits)), (vi ((l.getD i_1.toNat default).prt.lo)), (vi ((l.getD i_1.toNat default).prt.hi))] 84) :: ((rD11, Obj.deferred (some [])) :: ((r10, oc [(vs l_a l.length l_c)] 47) :: ((r9, oc [(Value.func (.yield l8) [].toArray [].toArray)] 133) :: ((rD8, Obj.deferred (some [])) :: ((r7, oc [(vi t.addr), (vi t.port)] 41) :: ((r6, oc [(vs l_a l.length l_c)] 47) :: ((r5, oc [(Value.pointer (some ⟨r4, 0, none⟩))] 200) :: ((r4, oc [(vs x_10a x_10.length x_10c)] 203) :: ((r3, oc [(vi t.addr), (vi t.port)] 41) :: ((r2, oc [(vi t.addr), (vi t.port)] 41) :: ((r1, oc [(vi t.addr), (vi t.port)] 41) :: []))))))))))))))))) (fun n_11 j_9 x_10 x_10a x_10c x_10B => [(0, (Value.iface 200 (Value.pointer (some ⟨r4, 0, none⟩)))), (1, (vi j_9))]) (fun n_11 j_9 x_10 x_10a x_10c x_10B => j_9.toNat < n_11 ∧ Is (Gv l t i_1 x_2 ((((((x_2 ++ ([i_1] : List Int)).length) : Nat) : Int) - 1).toNat + 1) (((((x_2 ++ ([i_1] : List Int)).length) : Nat) : Int) - 1) (x_2 ++ ([i_1] : List Int))) (Gv l t i_1 x_2 n_11 j_9 x_10) ∧ Bt eI 1 3 x_10a x_10c x_10B x_10 ∧ (0 ≤ j_9 ∧ j_9 < x_10.length) ∧ x_10.length = (x_2 ++ ([i_1] : List Int)).length ∧ (∀ z ∈ x_10, 0 ≤ z ∧ z < l.length)) (fun n_11 j_9 x_10 x_10a x_10c x_10B => n_11) ((((((x_2 ++ ([i_1] : List Int)).length) : Nat) : Int) - 1).toNat + 1) (((((x_2 ++ ([i_1] : List Int)).length) : Nat) : Int) - 1) (x_2 ++ ([i_1] : List Int)) ax1 cx1 Bx1 ?_ se (List.Perm.refl _) ?_
  ·exact ⟨Nat.lt_succ_self _, Is.refl _, hox1, (by first | omega | (simp only [List.length_append, List.length_cons, List.length_nil]; omega) | rfl | assumption | exact kD z53 z3), (by first | omega | (simp only [List.length_append, List.length_cons, List.length_nil]; omega) | rfl | assumption | exact kD z53 z3), (by first | omega | (simp only [List.length_append, List.length_cons, List.length_nil]; omega) | rfl | assumption | exact kD z53 z3)⟩
  ·rintro (_ | n_11) j_9 x_10 x_10a x_10c x_10B ⟨hm13, hF12, hx_10, hi14, hi15, hi16⟩
   ·omega
   refine Gr ?_
   refine Z3 ?_
   refine Xi ?_
   refine Af AZ1 (k := ?_)
   refine Ik ?_
   refine Hp ?_
   refine sH ?_
   refine Ao 11 rfl (fun hq12 => ?_) (fun hq12 => ?_)
   ·refine Ab 5 rfl ?_
    refine rG ?_
    refine Ku rfl ?_
    refine Cu ?_
    refine wB ?_
    refine Z35 ?_
    refine Dj results171 Bw.nil ?_
    refine Dz ?_
    refine Dj results111 Bw.nil ?_
    refine Dz ?_
    refine L1 ?_
    refine Zz ?_
    refine Fr ?_
    refine Fu (qa (qc (qa q0))) ?_
    refine Rf ?_
    refine Zz ?_
    refine cS ?_
    refine Xi ?_
    refine Mj ?_
    refine Z91 ?_
    exact Hv n_3 (i_1 - 1) x_10 x_10a x_10c x_10B ⟨by omega, (((hF4.pos hq10).t hq11).rn2 (hF12.pos hq12)), hx_10, z3, z69, z53⟩ (Nat.lt_succ_self _) se (List.Perm.refl _)
   refine Qa ?_
   refine El ?_
   refine bB (args := [_, _, _]) (Rs z2 (fun w1 hw1 => xQ r4 0 (u := (vs x_10a x_10.length x_10c)) w1 (hw1.cell (k := 0) me rfl)) call293) func293 ntmps293 ?_
   refine Z2 ?_
   refine Ik ?_
   refine Eh mixed 10 [(true, 0), (true, 1), (true, 2), (true, 3), (true, 4), (true, 5), (true, 6), (true, 7), (true, 8), (true, 9)] z2 ?_
   refine Li ?_
   refine Be (Cz (n := x_10.length) runUnderlying201 sizeOf3 j_9.toNat (hx_10.slj Ba) (gD z4) Kc) (k := ?_)
   refine Be (Ci isAgg3 j_9.toNat 0 (hx_10.slj Ba) (gD z4)) (k := ?_)
   refine Li ?_
   refine Be (Cz (n := x_10.length) runUnderlying201 sizeOf3 ((j_9 - 1).toNat / 2) (hx_10.slj Ba) (gD z4) Kc) (k := ?_)
   refine Be (Ci isAgg3 ((j_9 - 1).toNat / 2) 0 (hx_10.slj Ba) (gD z4)) (k := ?_)
   refine Be Ny (k := ?_)
   refine Z83 ?_
   refine Bd results293 z0 ?_
   refine Ar dG (k := ?_)
   refine Pe ?_
   refine Bi rfl (fun hq13 => ?_) (fun hq13 => ?_)
   rotate_left
   ·refine Cg ?_
    refine Du ?_
    refine Hp ?_
    refine Ck ?_
    refine Kq (args := [(vs x_10a x_10.length x_10c), (vi ((((j_9 - 1).toNat / 2) : Nat) : Int)), (vi j_9)]) (Rs z2 (fun w1 hw1 => xS r4 0 (u := (vs x_10a x_10.length x_10c)) w1 (hw1.cell (k := 0) me rfl)) call296) (fun w1 hw1 => BA7 w1 hx_10 (fun p hp => hw1.own p (by first | exact hp | (simp [hp]; done))) (i := ((((j_9 - 1).toNat / 2) : Nat) : Int)) (j := j_9) z4 z4 z3) (k := ?_)
    rintro w1_1 e1_1 w2_1 hw1_1 ⟨B1_1, he_1, hT_1, ho_1⟩
    refine ⟨_, (B1_1 ++ ((r13, oc [(vi i_1)] 3) :: ((l8, Cr rr8 .busy none) :: ((l11, Cr rr11 .busy none) :: ((r12, oc [(Value.bool ((l.getD i_1.toNat default).allow)), (vi ((l.getD i_1.toNat default).pfx.addr)), (vi ((l.getD i_1.toNat default).pfx.bits)), (vi ((l.getD i_1.toNat default).prt.lo)), (vi ((l.getD i_1.toNat default).prt.hi))] 84) :: ((rD11, Obj.deferred (some [])) :: ((r10, oc [(vs l_a l.length l_c)] 47) :: ((r9, oc [(Value.func (.yield l8) [].toArray [].toArray)] 133) :: ((rD8, Obj.deferred (some [])) :: ((r7, oc [(vi t.addr), (vi t.port)] 41) :: ((r6, oc [(vs l_a l.length l_c)] 47) :: ((r5, oc [(Value.pointer (some ⟨r4, 0, none⟩))] 200) :: ((r4, oc [(vs x_10a x_10.length x_10c)] 203) :: ((r3, oc [(vi t.addr), (vi t.port)] 41) :: ((r2, oc [(vi t.addr), (vi t.port)] 41) :: ((r1, oc [(vi t.addr), (vi t.port)] 41) :: [])))))))))))))))), he_1, (hw1_1.perm q0).tr hT_1, ?_⟩
    refine Hw (L' := (B1_1 ++ ((r13, oc [(vi i_1)] 3) :: ((l8, Cr rr8 .busy none) :: ((l11, Cr rr11 .busy none) :: ((r12, oc [(Value.bool ((l.getD i_1.toNat default).allow)), (vi ((l.getD i_1.toNat default).pfx.addr)), (vi ((l.getD i_1.toNat default).pfx.bits)), (vi ((l.getD i_1.toNat default).prt.lo)), (vi ((l.getD i_1.toNat default).prt.hi))] 84) :: ((rD11, Obj.deferred (some [])) :: ((r10, oc [(vs l_a l.length l_c)] 47) :: ((r9, oc [(Value.func (.yield l8) [].toArray [].toArray)] 133) :: ((rD8, Obj.deferred (some [])) :: ((r7, oc [(vi t.addr), (vi t.port)] 41) :: ((r6, oc [(vs l_a l.length l_c)] 47) :: ((r5, oc [(Value.pointer (some ⟨r4, 0, none⟩))] 200) :: ((r4, oc [(vs x_10a (((x_10.set ((((j_9 - 1).toNat / 2) : Nat) : Int).toNat (x_10.getD j_9.toNat default)).set j_9.toNat (x_10.getD ((((j_9 - 1).toNat / 2) : Nat) : Int).toNat default)).length) x_10c)] 203) :: ((r3, oc [(vi t.addr), (vi t.port)] 41) :: ((r2, oc [(vi t.addr), (vi t.port)] 41) :: ((r1, oc [(vi t.addr), (vi t.port)] 41) :: []))))))))))))))))) (by simp only [List.length_set]) ?_
    refine Z0 ?_
    refine Jt ?_
    refine Mj ?_
    refine Fr ?_
    exact Hv n_11 ((((j_9 - 1).toNat / 2) : Nat) : Int) ((x_10.set ((((j_9 - 1).toNat / 2) : Nat) : Int).toNat (x_10.getD j_9.toNat default)).set j_9.toNat (x_10.getD ((((j_9 - 1).toNat / 2) : Nat) : Int).toNat default)) x_10a x_10c B1_1 ⟨by omega, ((hF12.neg hq12).neg hq13), ho_1, J0, (by first | assumption | (simp only [List.length_set]; assumption)), (by exact W2 z53 z3 z3)⟩ (Nat.lt_succ_self _) se (List.Perm.refl _)
   refine Cu ?_
   refine wB ?_
   refine Z35 ?_
   refine Dj results171 Bw.nil ?_
   refine Dz ?_
   refine Dj results111 Bw.nil ?_
   refine Dz ?_
   refine L1 ?_
   refine Zz ?_
   refine Fr ?_
   refine Fu (qa (qc (qa q0))) ?_
   refine Rf ?_
   refine Zz ?_
   refine cS ?_
   refine Xi ?_
   refine Mj ?_
   refine Z91 ?_
   exact Hv n_3 (i_1 - 1) x_10 x_10a x_10c x_10B ⟨by omega, (((hF4.pos hq10).t hq11).rn2 ((hF12.neg hq12).pos hq13)), hx_10, z3, z69, z53⟩ (Nat.lt_succ_self _) se (List.Perm.refl _)

end Go.Proofs.YtdnjanhdnibkfaaGreatDoor.Jd

