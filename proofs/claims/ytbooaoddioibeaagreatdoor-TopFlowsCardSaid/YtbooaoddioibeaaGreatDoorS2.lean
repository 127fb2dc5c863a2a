/- Part of the proofs of this seat: walks and plain facts. No condition. -/
import Derived.Test.YtbooaoddioibeaaGreatDoorS0
import Derived.Test.YtbooaoddioibeaaGreatDoorProg
import Derived.Test.YtbooaoddioibeaaGreatDoorS1
namespace Go.Proofs.YtbooaoddioibeaaGreatDoor.Jd
open Go.Proofs.Tryz
open Go.Proofs
open Go.RowKit (Below)
set_option maxRecDepth 100000
set_option maxHeartbeats 8000000
set_option linter.unusedVariables false
set_option linter.unusedSimpArgs false
theorem mixed : Tryz.prog.follows .mixedOrders = true := by kernel_rfl
theorem Sa : Ko Tryz.prog 407 0 0 := fun r k w => by simp [Instr.fieldAt, Instr.sureAddr, fieldPlace, Ay]
theorem Q1 : cJ Tryz.prog 404 [(0, 1), (1, 1), (2, 1), (3, 1), (4, 1), (5, 1), (6, 1), (7, 1)] := ⟨_, _, _, fun w => runUnderlying404 w, fun w => sizeOf402 w, fun i q h => by
  have hi : i < 8 := by simpa using (List.getElem?_eq_some_iff.1 h).1
  (iterate 8 (rcases i with _ | i; · simpa using h.symm))
  omega⟩
theorem Q2 : bW Tryz.prog 407 [(0, 8)] := ⟨_, fun w => runUnderlying407 w, fun w => by simp⟩
theorem Q3 : cJ Tryz.prog 551 [(0, 1), (1, 1)] := ⟨_, _, _, fun w => runUnderlying551 w, fun w => sizeOf549 w, fun i q h => by
  have hi : i < 2 := by simpa using (List.getElem?_eq_some_iff.1 h).1
  (iterate 2 (rcases i with _ | i; · simpa using h.symm))
  omega⟩
theorem Jm : Ty Tryz.prog 5 1 1 (Value.int .u8 (0)) := ⟨⟨Tryz.t5, by kernel_rfl, rfl, rfl, rfl⟩, rfl⟩
theorem B3 (w : World) {x : Int} {k : Int} : Zc Tryz.prog 458 [(Value.int .u32 (x)), (Value.int .i64 (k))] w (Value.int .u32 ((Q0 x k))) := by
  have hF := Is.refl (Q0 x k);refine enter func458 ntmps458 (h := ?_);refine fE ?_;refine Z1 ?_;refine Am (Xg rfl runUnderlying3 runUnderlying243) (k := ?_);refine Am (Tx) (k := ?_);refine bN ?_;refine Z9 ?_;refine Am (sZ (h := by exact A9 _ _)) (k := ?_);refine Z41 ?_;refine Am (P5) (k := ?_);refine Am (Xf (h := by exact gJ _)) (k := ?_);refine Am (M2) (k := ?_);refine Vq ?_;refine Df results458 Rm (fun w1 hw1 => ?_);exact ⟨(rq (hF)), hw1.ext_out⟩

theorem Gv (w : World) {w_ : Int} {n_ : Int} : Zc Tryz.prog 419 [(Value.int .u32 (w_)), (Value.int .i64 (n_))] w (Value.int .u32 ((Lo w_ n_))) := by
  have hF := Is.refl (Lo w_ n_);refine enter func419 ntmps419 (h := ?_);refine fE ?_;refine Z9 ?_;refine Am (P9) (k := ?_);refine Mv (Bc call458) (fun w1 hw1 => B3 w1 (x := w_) (k := (IntKind.wrap .i64 (0 - n_)))) (k := ?_);refine Vq ?_;refine Df results419 Rm (fun w1 hw1 => ?_);exact ⟨(rq (hF)), hw1.ext_out⟩

theorem nJ (w : World) {w_ : Int} {a : Int} {b : Int} {c : Int} : Zc Tryz.prog 418 [(Value.int .u32 (w_)), (Value.int .i64 (a)), (Value.int .i64 (b)), (Value.int .i64 (c))] w (Value.int .u32 ((A7 w_ a b c))) := by
  have hF := Is.refl (A7 w_ a b c);refine enter func418 ntmps418 (h := ?_);refine fE ?_;refine Z9 ?_;refine Mv (Bc call419) (fun w1 hw1 => Gv w1 (w_ := w_) (n_ := a)) (k := ?_);refine Z41 ?_;refine Mv (Bc call419) (fun w1 hw1 => Gv w1 (w_ := w_) (n_ := b)) (k := ?_);refine Am (Lh) (k := ?_);refine Z41 ?_;refine Mv (Bc call419) (fun w1 hw1 => Gv w1 (w_ := w_) (n_ := c)) (k := ?_);refine Am (Lh) (k := ?_);refine Vq ?_;refine Df results418 Rm (fun w1 hw1 => ?_);exact ⟨(rq (hF)), hw1.ext_out⟩

theorem tN (w : World) {w_ : Int} : Zc Tryz.prog 362 [(Value.int .u32 (w_))] w (Value.int .u32 ((nH w_))) := by
  have hF := Is.refl (nH w_);refine enter func362 ntmps362 (h := ?_);refine fE ?_;refine Z1 ?_;refine Mv (Bc call419) (fun w1 hw1 => Gv w1 (w_ := w_) (n_ := 7)) (k := ?_);refine Za ?_;refine Mv (Bc call419) (fun w1 hw1 => Gv w1 (w_ := w_) (n_ := 18)) (k := ?_);refine Am (Lh) (k := ?_);refine Za ?_;refine Am (Xf) (k := ?_);refine Am (Lh) (k := ?_);refine Vq ?_;refine Df results362 Rm (fun w1 hw1 => ?_);exact ⟨(rq (hF)), hw1.ext_out⟩

theorem tO (w : World) {w_ : Int} : Zc Tryz.prog 363 [(Value.int .u32 (w_))] w (Value.int .u32 ((nI w_))) := by
  have hF := Is.refl (nI w_);refine enter func363 ntmps363 (h := ?_);refine fE ?_;refine Z1 ?_;refine Mv (Bc call419) (fun w1 hw1 => Gv w1 (w_ := w_) (n_ := 17)) (k := ?_);refine Za ?_;refine Mv (Bc call419) (fun w1 hw1 => Gv w1 (w_ := w_) (n_ := 19)) (k := ?_);refine Am (Lh) (k := ?_);refine Za ?_;refine Am (Xf) (k := ?_);refine Am (Lh) (k := ?_);refine Vq ?_;refine Df results363 Rm (fun w1 hw1 => ?_);exact ⟨(rq (hF)), hw1.ext_out⟩

theorem qA (w : World) {w_ : Int} : Zc Tryz.prog 361 [(Value.int .u32 (w_))] w (Value.int .u32 ((cM w_))) := by
  have hF := Is.refl (cM w_);refine enter func361 ntmps361 (h := ?_);refine fE ?_;refine Z1 ?_;refine Mv (Bc call418) (fun w1 hw1 => nJ w1 (w_ := w_) (a := 2) (b := 13) (c := 22)) (k := ?_);refine Vq ?_;refine Df results361 Rm (fun w1 hw1 => ?_);exact ⟨(rq (hF)), hw1.ext_out⟩

theorem qB (w : World) {w_ : Int} : Zc Tryz.prog 360 [(Value.int .u32 (w_))] w (Value.int .u32 ((Ub w_))) := by
  have hF := Is.refl (Ub w_);refine enter func360 ntmps360 (h := ?_);refine fE ?_;refine Z1 ?_;refine Mv (Bc call418) (fun w1 hw1 => nJ w1 (w_ := w_) (a := 6) (b := 11) (c := 25)) (k := ?_);refine Vq ?_;refine Df results360 Rm (fun w1 hw1 => ?_);exact ⟨(rq (hF)), hw1.ext_out⟩

theorem qC (w : World) {b : Ep} (hb : b.length = 64) : Zc Tryz.prog 308 [(Value.string (bs b))] w (Value.agg (aI .u32 (Lq b)).toArray) := by
  have hF := Is.refl (Lq b);refine enter func308 ntmps308 (h := ?_);refine Z5 ?_;refine Dw Fx (Ig (l := aI .u32 (List.replicate 64 (0 : Int))) zeroValue472 fH) (k := fun r1 b6 => ?_);have hrlr1 := List.length_replicate (n := 64) (a := (0 : Int));refine yM ?_;refine Dw Fx (Ig (l := aI .u32 (List.replicate 64 (0 : Int))) zeroValue472 fH) (k := fun r2 b9 => ?_);have hrlr2 := List.length_replicate (n := 64) (a := (0 : Int));refine zF ?_;refine Vp ?_;refine Z50 ?_;refine bZ (σ1 := Nat) (σ2 := Nat) (σ3 := List Int) (fun n_3 x_1 x_2 => ((r2, Obj.cells (aI .u32 x_2).toArray 472) :: ((r1, Obj.cells (aI .u32 (List.replicate 64 (0 : Int))).toArray 472) :: []))) (fun n_3 x_1 x_2 => [(0, (Value.string (bs b))), (2, (Value.pointer (some ⟨r1, 0, none⟩))), (3, (Value.pointer (some ⟨r2, 0, none⟩))), (7, (Value.int .i64 (((x_1 : Nat) : Int))))]) (fun n_3 x_1 x_2 => 64 - x_1 < n_3 ∧ Is (Gu b (64 + 1) 0 (List.replicate 64 (0 : Int))) (Gu b n_3 x_1 x_2) ∧ x_2.length = 64 ∧ x_1 ≤ 64) (fun n_3 x_1 x_2 => n_3) (64 + 1) 0 (List.replicate 64 (0 : Int)) ?_ se (List.Perm.refl _) ?_
  · exact ⟨Nat.lt_succ_self _, Is.refl _, Qd, K5⟩
  · rintro (_ | n_3) x_1 x_2 ⟨hm5, d6, b7, hi6⟩
    · omega
    refine zD ?_;refine Kl rfl (fun a6 => ?_) (fun a6 => ?_);rotate_left
    · refine Hw ?_;refine sF ?_;refine Z2 ?_;refine El ?_;refine Am (tF (xs := x_2) isAgg472 sizeOf472 Qd) (k := ?_);refine Qe (pX (xs := (List.replicate 64 (0 : Int))) (ys := x_2) sizeOf472 Qd Qd) (k := ?_);refine Z8 ?_;refine Vb ?_;refine Df results308 (Mt.agg isAgg472 sizeOf472 rfl me (nB (l := aI .u32 x_2) (by rw [Ed]; first | exact ix)) Mt.nil) (fun w1 hw1 => ?_);exact ⟨(rq ((hF.rn2 (d6.neg a6)))), hw1.ext_out⟩
    refine O1 ?_;refine Vp ?_;refine bN ?_;refine Vp ?_;refine Am (sH) (k := ?_);refine Z8 ?_;refine Kl rfl (fun c6 => ?_) (fun c6 => ?_);rotate_left
    · refine Nf ?_;refine Jz ?_;refine Ka mixed 23 [(true, 0), (true, 1), (true, 2), (true, 3), (true, 4), (true, 5), (true, 6), (true, 7), (true, 8), (true, 11), (true, 12), (true, 13), (true, 14), (true, 16), (true, 17), (true, 18), (true, 19), (false, 9), (true, 10), (true, 15), (false, 20), (true, 21), (true, 22)] fH ?_;refine Z59 ?_;refine Av (Vd) (k := ?_);refine Av (Nt (((((x_1 : Nat) : Int) - 16)).toNat) (((((x_1 : Nat) : Int) - 16)).toNat) runUnderlying472 sizeOf402 (hm := Qd)) (k := ?_);refine Av (Ry (m := (((((x_1 : Nat) : Int) - 16)).toNat)) (xs := x_2) isAgg402 Qd) (k := ?_);refine fJ ?_;refine Av (Vd) (k := ?_);refine Av (Nt (((((x_1 : Nat) : Int) - 15)).toNat) (((((x_1 : Nat) : Int) - 15)).toNat) runUnderlying472 sizeOf402 (hm := Qd)) (k := ?_);refine Av (Ry (m := (((((x_1 : Nat) : Int) - 15)).toNat)) (xs := x_2) isAgg402 Qd) (k := ?_);refine fJ ?_;refine Av (Vd) (k := ?_);refine Av (Nt (((((x_1 : Nat) : Int) - 7)).toNat) (((((x_1 : Nat) : Int) - 7)).toNat) runUnderlying472 sizeOf402 (hm := Qd)) (k := ?_);refine Av (Ry (m := (((((x_1 : Nat) : Int) - 7)).toNat)) (xs := x_2) isAgg402 Qd) (k := ?_);refine fJ ?_;refine Av (Vd) (k := ?_);refine Av (Nt (((((x_1 : Nat) : Int) - 2)).toNat) (((((x_1 : Nat) : Int) - 2)).toNat) runUnderlying472 sizeOf402 (hm := Qd)) (k := ?_);refine Av (Ry (m := (((((x_1 : Nat) : Int) - 2)).toNat)) (xs := x_2) isAgg402 Qd) (k := ?_);refine O5 (Bc call362) (fun w1 hw1 => tN w1 (w_ := (x_2.getD (((((x_1 : Nat) : Int) - 15)).toNat) default))) (k := ?_);refine Av (Kc) (k := ?_);refine Av (Kc) (k := ?_);refine O5 (Bc call363) (fun w1 hw1 => tO w1 (w_ := (x_2.getD (((((x_1 : Nat) : Int) - 2)).toNat) default))) (k := ?_);refine Av (Kc) (k := ?_);refine Av (Nt x_1 x_1 runUnderlying472 sizeOf402 (hm := Qd)) (k := ?_);refine Lk ?_;refine Qe (gC (m := x_1) (xs := x_2) sizeOf402 Qd) (k := ?_);refine Ct ?_;refine O2 ?_;exact Vu n_3 (x_1 + 1) (x_2.set x_1 (IntKind.u32.wrap ((IntKind.u32.wrap ((IntKind.u32.wrap ((x_2.getD (((((x_1 : Nat) : Int) - 16)).toNat) default) + (nH (x_2.getD (((((x_1 : Nat) : Int) - 15)).toNat) default)))) + (x_2.getD (((((x_1 : Nat) : Int) - 7)).toNat) default))) + (nI (x_2.getD (((((x_1 : Nat) : Int) - 2)).toNat) default))))) ⟨by omega, ((d6.pos a6).neg c6), Qd, z6⟩ (Nat.lt_succ_self _) se (List.Perm.refl _)
    refine Kk ?_;refine Kk ?_;refine Z9 ?_;refine Am (sI) (k := ?_);refine Za ?_;refine Am (sI) (k := ?_);refine Am (Zx) (k := ?_);refine Am (P4 (s := b) (4 * x_1) ((4 * x_1) + 4) runUnderlying9 z6 z6) (k := ?_);have hsb3 : ((b.take ((4 * x_1) + 4)).drop (4 * x_1)).length = ((4 * x_1) + 4) - (4 * x_1) := by first | omega | (simp only [List.length_take, List.length_drop, List.length_cons, List.length_nil] <;> omega)
    refine gG (s := ((b.take ((4 * x_1) + 4)).drop (4 * x_1))) underlying9 underlying38 underlying5 (k := fun ax1 cx1 i6 b5 => ?_);have hbl1 := Et (s := ((b.take ((4 * x_1) + 4)).drop (4 * x_1)));refine Am (Ts runUnderlying38) (k := ?_);refine Z54 ?_;refine bZ (σ1 := Nat) (σ2 := Nat) (σ3 := List Int) (fun n_9 x_7 x_8 => (i6 ++ ((r2, Obj.cells (aI .u32 x_8).toArray 472) :: ((r1, Obj.cells (aI .u32 (List.replicate 64 (0 : Int))).toArray 472) :: [])))) (fun n_9 x_7 x_8 => [(0, (Value.string (bs b))), (2, (Value.pointer (some ⟨r1, 0, none⟩))), (3, (Value.pointer (some ⟨r2, 0, none⟩))), (4, (Value.int .i64 (((x_1 : Nat) : Int)))), (7, (Value.int .i64 (((x_1 : Nat) : Int)))), (19, (Value.slice (ax1) ((Li ((b.take ((4 * x_1) + 4)).drop (4 * x_1))).length) (cx1))), (20, (Value.int .i64 (((((Li ((b.take ((4 * x_1) + 4)).drop (4 * x_1))).length) : Nat) : Int)))), (21, (Value.int .i64 (((x_7 : Nat) : Int))))]) (fun n_9 x_7 x_8 => ((Li ((b.take ((4 * x_1) + 4)).drop (4 * x_1))).length) - x_7 < n_9 ∧ Is (Ip b x_1 x_2 (((Li ((b.take ((4 * x_1) + 4)).drop (4 * x_1))).length) + 1) 0 x_2) (Ip b x_1 x_2 n_9 x_7 x_8) ∧ x_8.length = 64) (fun n_9 x_7 x_8 => n_9) (((Li ((b.take ((4 * x_1) + 4)).drop (4 * x_1))).length) + 1) 0 x_2 ?_ se (List.Perm.refl _) ?_
    · exact ⟨Nat.lt_succ_self _, Is.refl _, Qd⟩
    · rintro (_ | n_9) x_7 x_8 ⟨hm11, i9, w9⟩
      · omega
      refine zD ?_;refine Kl rfl (fun m7 => ?_) (fun m7 => ?_);rotate_left
      · refine Hw ?_;refine sF ?_;refine Jz ?_;refine Hw ?_;refine Vc ?_;refine Rp ?_;refine Jz ?_;refine El ?_;refine Z27 ?_;refine Km _ ((qc (qa q0)).trans (qa (qc q0))) ?_;refine Rn _ (List.Sublist.cons_cons _ (List.Sublist.cons_cons _ (List.nil_sublist _))) ?_;exact Vu n_3 (x_1 + 1) x_8 ⟨by omega, (((d6.pos a6).pos c6).rn2 (i9.neg m7)), Qd, z6⟩ (Nat.lt_succ_self _) se (List.Perm.refl _)
      refine O1 ?_;refine Z5 ?_;refine Am (mQ (n := (Li ((b.take ((4 * x_1) + 4)).drop (4 * x_1))).length) runUnderlying38 sizeOf5 x_7 (b5.slj Ah) (gD Qd) (by first | rfl | omega | simp)) (k := ?_);refine Am (bV isAgg5 x_7 0 (b5.slj Ah) (gD Qd)) (k := ?_);refine yN ?_;refine Am (Nt x_1 x_1 runUnderlying472 sizeOf402 (hm := Qd)) (k := ?_);refine Am (Ry (m := x_1) (xs := x_8) isAgg402 Qd) (k := ?_);refine Am (sZ) (k := ?_);refine Za ?_;refine Am (Xg rfl runUnderlying5 runUnderlying402) (k := ?_);refine Am (M2) (k := ?_);refine Am (Nt x_1 x_1 runUnderlying472 sizeOf402 (hm := Qd)) (k := ?_);refine Qe (gC (m := x_1) (xs := x_8) sizeOf402 Qd) (k := ?_);refine Ct ?_;refine O2 ?_;exact Vu n_9 (x_7 + 1) (x_8.set x_1 (orI .u32 (sY .u32 (x_8.getD x_1 default) 8) (IntKind.u32.wrap ((Li ((b.take ((4 * x_1) + 4)).drop (4 * x_1))).getD x_7 default)))) ⟨by omega, (i9.pos m7), Qd⟩ (Nat.lt_succ_self _) se (List.Perm.refl _)

theorem B4 (w : World) {s : Ep} (n_s : s.length ≤ 10000000) : Zc Tryz.prog 251 [(Value.string (bs s))] w (Value.string (bs (gI s))) := by
  have hF := Is.refl (gI s);refine enter func251 ntmps251 (h := ?_);refine fE ?_;refine Z1 ?_;refine O3 ?_;refine Am (sI) (k := ?_);refine bN ?_;refine Z1 ?_;refine gG (s := s) underlying9 underlying38 underlying5 (k := fun ax1 cx1 i6 b5 => ?_);have hbl1 := Et (s := s);refine Dw Fx sE (k := fun r1 b6 => ?_);refine Bw ((Li s) ++ ([128] : List Int)) rfl Jm underlying38 Ah b5 (qb q0) (Jk.lit (xs := ([128] : List Int)) Ah) ⟨by omega, by omega⟩ (n := (Li s).length) (m := 1) (k := fun ax2 cx2 l6 d4 => ?_);have hal2 : ((Li s) ++ ([128] : List Int)).length = (Li s).length + 1 := by first | rfl | exact List.length_append | simp
  refine bN ?_;refine Ie ?_;refine mR (σ1 := Nat) (σ2 := List Int) (σ3 := Option Addr) (σ4 := Nat) (σ5 := Ad) (fun n_2 out_1 b3 b4 a8 => (a8 ++ ((r1, Obj.cells [(Value.int .u8 (128))].toArray 5) :: []))) (fun n_2 out_1 b3 b4 a8 => [(2, (Value.string (bs ([] : Ep)))), (3, (Value.int .i64 ((((s.length : Nat) : Int) * 8)))), (4, (Value.slice (b3) (out_1.length) (b4)))]) (fun n_2 out_1 b3 b4 a8 => (120 - out_1.length % 64) % 64 < n_2 ∧ Is (Vx s ((120 - ((Li s) ++ ([128] : List Int)).length % 64) % 64 + 1) ((Li s) ++ ([128] : List Int))) (Vx s n_2 out_1) ∧ Bg Er 1 5 b3 b4 a8 out_1 ∧ out_1.length + (120 - out_1.length % 64) % 64 ≤ s.length + 64) (fun n_2 out_1 b3 b4 a8 => n_2) ((120 - ((Li s) ++ ([128] : List Int)).length % 64) % 64 + 1) ((Li s) ++ ([128] : List Int)) ax2 cx2 l6 ?_ se (List.Perm.refl _) ?_
  · exact ⟨Nat.lt_succ_self _, Is.refl _, d4, K5⟩
  · rintro (_ | n_2) out_1 b3 b4 a8 ⟨hm4, n9, d3, hi5⟩
    · omega
    refine Z53 ?_;refine Am (Ts runUnderlying38) (k := ?_);refine Am (mW) (k := ?_);refine Am (AD4) (k := ?_);refine Z8 ?_;refine Kl rfl (fun a6 => ?_) (fun a6 => ?_)
    · refine Nf ?_;refine Jz ?_;refine Ie ?_;refine Z1 ?_;refine Dw Fx sE (k := fun r2 b9 => ?_);refine Bw (out_1 ++ ([0] : List Int)) rfl Jm underlying38 Ah d3 (qb q0) (Jk.lit (xs := ([0] : List Int)) Ah) ⟨by omega, by omega⟩ (n := out_1.length) (m := 1) (k := fun ax3 cx3 l8 d5 => ?_);have hal3 : (out_1 ++ ([0] : List Int)).length = out_1.length + 1 := by first | rfl | exact List.length_append | simp
      refine Z0 ?_;refine Kn ?_;refine Km _ ((qc (qa q0)).trans (qb q0)) ?_;refine Rn _ (List.Sublist.append (List.Sublist.refl _) (List.Sublist.cons_cons _ (List.nil_sublist _))) ?_;exact mS n_2 (out_1 ++ ([0] : List Int)) ax3 cx3 l8 ⟨by omega, (n9.pos a6), d5, z6⟩ (Nat.lt_succ_self _) se (List.Perm.refl _)
    refine Hw ?_;refine sF ?_;refine Z2 ?_;refine Z5 ?_;refine pO ?_;refine Ie ?_;refine Xd ?_;refine Z53 ?_;refine yL ?_;refine yX ?_;refine yK ?_;refine K6 ?_;refine Dw Fx sE (k := fun r3 o4 => ?_);refine Bw (out_1 ++ ([(IntKind.u8.wrap (Aa .i64 (((s.length : Nat) : Int) * 8) 56))] : List Int)) rfl Jm underlying38 Ah d3 (qb q0) (Jk.lit (xs := ([(IntKind.u8.wrap (Aa .i64 (((s.length : Nat) : Int) * 8) 56))] : List Int)) Ah) ⟨by omega, by omega⟩ (n := out_1.length) (m := 1) (k := fun ax4 cx4 o9 e5 => ?_);have hal4 : (out_1 ++ ([(IntKind.u8.wrap (Aa .i64 (((s.length : Nat) : Int) * 8) 56))] : List Int)).length = out_1.length + 1 := by first | rfl | exact List.length_append | simp
    refine Z0 ?_;refine yV ?_;refine K9 ?_;refine Z0 ?_;refine L5 ?_;refine yL ?_;refine yX ?_;refine yK ?_;refine K6 ?_;refine Dw Fx sE (k := fun r4 o5 => ?_);refine Bw ((out_1 ++ ([(IntKind.u8.wrap (Aa .i64 (((s.length : Nat) : Int) * 8) 56))] : List Int)) ++ ([(IntKind.u8.wrap (Aa .i64 (((s.length : Nat) : Int) * 8) 48))] : List Int)) rfl Jm underlying38 Ah e5 (qb q0) (Jk.lit (xs := ([(IntKind.u8.wrap (Aa .i64 (((s.length : Nat) : Int) * 8) 48))] : List Int)) Ah) ⟨by omega, by omega⟩ (n := (out_1 ++ ([(IntKind.u8.wrap (Aa .i64 (((s.length : Nat) : Int) * 8) 56))] : List Int)).length) (m := 1) (k := fun ax5 cx5 p0 e6 => ?_);have hal5 : ((out_1 ++ ([(IntKind.u8.wrap (Aa .i64 (((s.length : Nat) : Int) * 8) 56))] : List Int)) ++ ([(IntKind.u8.wrap (Aa .i64 (((s.length : Nat) : Int) * 8) 48))] : List Int)).length = (out_1 ++ ([(IntKind.u8.wrap (Aa .i64 (((s.length : Nat) : Int) * 8) 56))] : List Int)).length + 1 := by first | rfl | exact List.length_append | simp
    refine Z0 ?_;refine yV ?_;refine K9 ?_;refine Z0 ?_;refine L5 ?_;refine yL ?_;refine yX ?_;refine yK ?_;refine K6 ?_;refine Dw Fx sE (k := fun r5 w6 => ?_);refine Bw (((out_1 ++ ([(IntKind.u8.wrap (Aa .i64 (((s.length : Nat) : Int) * 8) 56))] : List Int)) ++ ([(IntKind.u8.wrap (Aa .i64 (((s.length : Nat) : Int) * 8) 48))] : List Int)) ++ ([(IntKind.u8.wrap (Aa .i64 (((s.length : Nat) : Int) * 8) 40))] : List Int)) rfl Jm underlying38 Ah e6 (qb q0) (Jk.lit (xs := ([(IntKind.u8.wrap (Aa .i64 (((s.length : Nat) : Int) * 8) 40))] : List Int)) Ah) ⟨by omega, by omega⟩ (n := ((out_1 ++ ([(IntKind.u8.wrap (Aa .i64 (((s.length : Nat) : Int) * 8) 56))] : List Int)) ++ ([(IntKind.u8.wrap (Aa .i64 (((s.length : Nat) : Int) * 8) 48))] : List Int)).length) (m := 1) (k := fun ax6 cx6 p4 e7 => ?_);have hal6 : (((out_1 ++ ([(IntKind.u8.wrap (Aa .i64 (((s.length : Nat) : Int) * 8) 56))] : List Int)) ++ ([(IntKind.u8.wrap (Aa .i64 (((s.length : Nat) : Int) * 8) 48))] : List Int)) ++ ([(IntKind.u8.wrap (Aa .i64 (((s.length : Nat) : Int) * 8) 40))] : List Int)).length = ((out_1 ++ ([(IntKind.u8.wrap (Aa .i64 (((s.length : Nat) : Int) * 8) 56))] : List Int)) ++ ([(IntKind.u8.wrap (Aa .i64 (((s.length : Nat) : Int) * 8) 48))] : List Int)).length + 1 := by first | rfl | exact List.length_append | simp
    refine Z0 ?_;refine yV ?_;refine K9 ?_;refine Z0 ?_;refine L5 ?_;refine yL ?_;refine yX ?_;refine yK ?_;refine K6 ?_;refine Dw Fx sE (k := fun r6 o6 => ?_);refine Bw ((((out_1 ++ ([(IntKind.u8.wrap (Aa .i64 (((s.length : Nat) : Int) * 8) 56))] : List Int)) ++ ([(IntKind.u8.wrap (Aa .i64 (((s.length : Nat) : Int) * 8) 48))] : List Int)) ++ ([(IntKind.u8.wrap (Aa .i64 (((s.length : Nat) : Int) * 8) 40))] : List Int)) ++ ([(IntKind.u8.wrap (Aa .i64 (((s.length : Nat) : Int) * 8) 32))] : List Int)) rfl Jm underlying38 Ah e7 (qb q0) (Jk.lit (xs := ([(IntKind.u8.wrap (Aa .i64 (((s.length : Nat) : Int) * 8) 32))] : List Int)) Ah) ⟨by omega, by omega⟩ (n := (((out_1 ++ ([(IntKind.u8.wrap (Aa .i64 (((s.length : Nat) : Int) * 8) 56))] : List Int)) ++ ([(IntKind.u8.wrap (Aa .i64 (((s.length : Nat) : Int) * 8) 48))] : List Int)) ++ ([(IntKind.u8.wrap (Aa .i64 (((s.length : Nat) : Int) * 8) 40))] : List Int)).length) (m := 1) (k := fun ax7 cx7 p5 e8 => ?_);have hal7 : ((((out_1 ++ ([(IntKind.u8.wrap (Aa .i64 (((s.length : Nat) : Int) * 8) 56))] : List Int)) ++ ([(IntKind.u8.wrap (Aa .i64 (((s.length : Nat) : Int) * 8) 48))] : List Int)) ++ ([(IntKind.u8.wrap (Aa .i64 (((s.length : Nat) : Int) * 8) 40))] : List Int)) ++ ([(IntKind.u8.wrap (Aa .i64 (((s.length : Nat) : Int) * 8) 32))] : List Int)).length = (((out_1 ++ ([(IntKind.u8.wrap (Aa .i64 (((s.length : Nat) : Int) * 8) 56))] : List Int)) ++ ([(IntKind.u8.wrap (Aa .i64 (((s.length : Nat) : Int) * 8) 48))] : List Int)) ++ ([(IntKind.u8.wrap (Aa .i64 (((s.length : Nat) : Int) * 8) 40))] : List Int)).length + 1 := by first | rfl | exact List.length_append | simp
    refine Z0 ?_;refine yV ?_;refine K9 ?_;refine Z0 ?_;refine L5 ?_;refine yL ?_;refine yX ?_;refine yK ?_;refine K6 ?_;refine Dw Fx sE (k := fun r7 y5 => ?_);refine Bw (((((out_1 ++ ([(IntKind.u8.wrap (Aa .i64 (((s.length : Nat) : Int) * 8) 56))] : List Int)) ++ ([(IntKind.u8.wrap (Aa .i64 (((s.length : Nat) : Int) * 8) 48))] : List Int)) ++ ([(IntKind.u8.wrap (Aa .i64 (((s.length : Nat) : Int) * 8) 40))] : List Int)) ++ ([(IntKind.u8.wrap (Aa .i64 (((s.length : Nat) : Int) * 8) 32))] : List Int)) ++ ([(IntKind.u8.wrap (Aa .i64 (((s.length : Nat) : Int) * 8) 24))] : List Int)) rfl Jm underlying38 Ah e8 (qb q0) (Jk.lit (xs := ([(IntKind.u8.wrap (Aa .i64 (((s.length : Nat) : Int) * 8) 24))] : List Int)) Ah) ⟨by omega, by omega⟩ (n := ((((out_1 ++ ([(IntKind.u8.wrap (Aa .i64 (((s.length : Nat) : Int) * 8) 56))] : List Int)) ++ ([(IntKind.u8.wrap (Aa .i64 (((s.length : Nat) : Int) * 8) 48))] : List Int)) ++ ([(IntKind.u8.wrap (Aa .i64 (((s.length : Nat) : Int) * 8) 40))] : List Int)) ++ ([(IntKind.u8.wrap (Aa .i64 (((s.length : Nat) : Int) * 8) 32))] : List Int)).length) (m := 1) (k := fun ax8 cx8 p6 e9 => ?_);have hal8 : (((((out_1 ++ ([(IntKind.u8.wrap (Aa .i64 (((s.length : Nat) : Int) * 8) 56))] : List Int)) ++ ([(IntKind.u8.wrap (Aa .i64 (((s.length : Nat) : Int) * 8) 48))] : List Int)) ++ ([(IntKind.u8.wrap (Aa .i64 (((s.length : Nat) : Int) * 8) 40))] : List Int)) ++ ([(IntKind.u8.wrap (Aa .i64 (((s.length : Nat) : Int) * 8) 32))] : List Int)) ++ ([(IntKind.u8.wrap (Aa .i64 (((s.length : Nat) : Int) * 8) 24))] : List Int)).length = ((((out_1 ++ ([(IntKind.u8.wrap (Aa .i64 (((s.length : Nat) : Int) * 8) 56))] : List Int)) ++ ([(IntKind.u8.wrap (Aa .i64 (((s.length : Nat) : Int) * 8) 48))] : List Int)) ++ ([(IntKind.u8.wrap (Aa .i64 (((s.length : Nat) : Int) * 8) 40))] : List Int)) ++ ([(IntKind.u8.wrap (Aa .i64 (((s.length : Nat) : Int) * 8) 32))] : List Int)).length + 1 := by first | rfl | exact List.length_append | simp
    refine Z0 ?_;refine yV ?_;refine K9 ?_;refine Z0 ?_;refine L5 ?_;refine yL ?_;refine yX ?_;refine yK ?_;refine K6 ?_;refine Dw Fx sE (k := fun r8 w7 => ?_);refine Bw ((((((out_1 ++ ([(IntKind.u8.wrap (Aa .i64 (((s.length : Nat) : Int) * 8) 56))] : List Int)) ++ ([(IntKind.u8.wrap (Aa .i64 (((s.length : Nat) : Int) * 8) 48))] : List Int)) ++ ([(IntKind.u8.wrap (Aa .i64 (((s.length : Nat) : Int) * 8) 40))] : List Int)) ++ ([(IntKind.u8.wrap (Aa .i64 (((s.length : Nat) : Int) * 8) 32))] : List Int)) ++ ([(IntKind.u8.wrap (Aa .i64 (((s.length : Nat) : Int) * 8) 24))] : List Int)) ++ ([(IntKind.u8.wrap (Aa .i64 (((s.length : Nat) : Int) * 8) 16))] : List Int)) rfl Jm underlying38 Ah e9 (qb q0) (Jk.lit (xs := ([(IntKind.u8.wrap (Aa .i64 (((s.length : Nat) : Int) * 8) 16))] : List Int)) Ah) ⟨by omega, by omega⟩ (n := (((((out_1 ++ ([(IntKind.u8.wrap (Aa .i64 (((s.length : Nat) : Int) * 8) 56))] : List Int)) ++ ([(IntKind.u8.wrap (Aa .i64 (((s.length : Nat) : Int) * 8) 48))] : List Int)) ++ ([(IntKind.u8.wrap (Aa .i64 (((s.length : Nat) : Int) * 8) 40))] : List Int)) ++ ([(IntKind.u8.wrap (Aa .i64 (((s.length : Nat) : Int) * 8) 32))] : List Int)) ++ ([(IntKind.u8.wrap (Aa .i64 (((s.length : Nat) : Int) * 8) 24))] : List Int)).length) (m := 1) (k := fun ax9 cx9 y3 m6 => ?_);have hal9 : ((((((out_1 ++ ([(IntKind.u8.wrap (Aa .i64 (((s.length : Nat) : Int) * 8) 56))] : List Int)) ++ ([(IntKind.u8.wrap (Aa .i64 (((s.length : Nat) : Int) * 8) 48))] : List Int)) ++ ([(IntKind.u8.wrap (Aa .i64 (((s.length : Nat) : Int) * 8) 40))] : List Int)) ++ ([(IntKind.u8.wrap (Aa .i64 (((s.length : Nat) : Int) * 8) 32))] : List Int)) ++ ([(IntKind.u8.wrap (Aa .i64 (((s.length : Nat) : Int) * 8) 24))] : List Int)) ++ ([(IntKind.u8.wrap (Aa .i64 (((s.length : Nat) : Int) * 8) 16))] : List Int)).length = (((((out_1 ++ ([(IntKind.u8.wrap (Aa .i64 (((s.length : Nat) : Int) * 8) 56))] : List Int)) ++ ([(IntKind.u8.wrap (Aa .i64 (((s.length : Nat) : Int) * 8) 48))] : List Int)) ++ ([(IntKind.u8.wrap (Aa .i64 (((s.length : Nat) : Int) * 8) 40))] : List Int)) ++ ([(IntKind.u8.wrap (Aa .i64 (((s.length : Nat) : Int) * 8) 32))] : List Int)) ++ ([(IntKind.u8.wrap (Aa .i64 (((s.length : Nat) : Int) * 8) 24))] : List Int)).length + 1 := by first | rfl | exact List.length_append | simp
    refine Z0 ?_;refine yV ?_;refine K9 ?_;refine Z0 ?_;refine L5 ?_;refine yL ?_;refine yX ?_;refine yK ?_;refine K6 ?_;refine Dw Fx sE (k := fun r9 w8 => ?_);refine Bw (((((((out_1 ++ ([(IntKind.u8.wrap (Aa .i64 (((s.length : Nat) : Int) * 8) 56))] : List Int)) ++ ([(IntKind.u8.wrap (Aa .i64 (((s.length : Nat) : Int) * 8) 48))] : List Int)) ++ ([(IntKind.u8.wrap (Aa .i64 (((s.length : Nat) : Int) * 8) 40))] : List Int)) ++ ([(IntKind.u8.wrap (Aa .i64 (((s.length : Nat) : Int) * 8) 32))] : List Int)) ++ ([(IntKind.u8.wrap (Aa .i64 (((s.length : Nat) : Int) * 8) 24))] : List Int)) ++ ([(IntKind.u8.wrap (Aa .i64 (((s.length : Nat) : Int) * 8) 16))] : List Int)) ++ ([(IntKind.u8.wrap (Aa .i64 (((s.length : Nat) : Int) * 8) 8))] : List Int)) rfl Jm underlying38 Ah m6 (qb q0) (Jk.lit (xs := ([(IntKind.u8.wrap (Aa .i64 (((s.length : Nat) : Int) * 8) 8))] : List Int)) Ah) ⟨by omega, by omega⟩ (n := ((((((out_1 ++ ([(IntKind.u8.wrap (Aa .i64 (((s.length : Nat) : Int) * 8) 56))] : List Int)) ++ ([(IntKind.u8.wrap (Aa .i64 (((s.length : Nat) : Int) * 8) 48))] : List Int)) ++ ([(IntKind.u8.wrap (Aa .i64 (((s.length : Nat) : Int) * 8) 40))] : List Int)) ++ ([(IntKind.u8.wrap (Aa .i64 (((s.length : Nat) : Int) * 8) 32))] : List Int)) ++ ([(IntKind.u8.wrap (Aa .i64 (((s.length : Nat) : Int) * 8) 24))] : List Int)) ++ ([(IntKind.u8.wrap (Aa .i64 (((s.length : Nat) : Int) * 8) 16))] : List Int)).length) (m := 1) (k := fun ax10 cx10 o7 j8 => ?_);have hal10 : (((((((out_1 ++ ([(IntKind.u8.wrap (Aa .i64 (((s.length : Nat) : Int) * 8) 56))] : List Int)) ++ ([(IntKind.u8.wrap (Aa .i64 (((s.length : Nat) : Int) * 8) 48))] : List Int)) ++ ([(IntKind.u8.wrap (Aa .i64 (((s.length : Nat) : Int) * 8) 40))] : List Int)) ++ ([(IntKind.u8.wrap (Aa .i64 (((s.length : Nat) : Int) * 8) 32))] : List Int)) ++ ([(IntKind.u8.wrap (Aa .i64 (((s.length : Nat) : Int) * 8) 24))] : List Int)) ++ ([(IntKind.u8.wrap (Aa .i64 (((s.length : Nat) : Int) * 8) 16))] : List Int)) ++ ([(IntKind.u8.wrap (Aa .i64 (((s.length : Nat) : Int) * 8) 8))] : List Int)).length = ((((((out_1 ++ ([(IntKind.u8.wrap (Aa .i64 (((s.length : Nat) : Int) * 8) 56))] : List Int)) ++ ([(IntKind.u8.wrap (Aa .i64 (((s.length : Nat) : Int) * 8) 48))] : List Int)) ++ ([(IntKind.u8.wrap (Aa .i64 (((s.length : Nat) : Int) * 8) 40))] : List Int)) ++ ([(IntKind.u8.wrap (Aa .i64 (((s.length : Nat) : Int) * 8) 32))] : List Int)) ++ ([(IntKind.u8.wrap (Aa .i64 (((s.length : Nat) : Int) * 8) 24))] : List Int)) ++ ([(IntKind.u8.wrap (Aa .i64 (((s.length : Nat) : Int) * 8) 16))] : List Int)).length + 1 := by first | rfl | exact List.length_append | simp
    refine Z0 ?_;refine yV ?_;refine K9 ?_;refine Z0 ?_;refine L5 ?_;refine yL ?_;refine yX ?_;refine yK ?_;refine K6 ?_;refine Dw Fx sE (k := fun d9 m8 => ?_);refine Bw ((((((((out_1 ++ ([(IntKind.u8.wrap (Aa .i64 (((s.length : Nat) : Int) * 8) 56))] : List Int)) ++ ([(IntKind.u8.wrap (Aa .i64 (((s.length : Nat) : Int) * 8) 48))] : List Int)) ++ ([(IntKind.u8.wrap (Aa .i64 (((s.length : Nat) : Int) * 8) 40))] : List Int)) ++ ([(IntKind.u8.wrap (Aa .i64 (((s.length : Nat) : Int) * 8) 32))] : List Int)) ++ ([(IntKind.u8.wrap (Aa .i64 (((s.length : Nat) : Int) * 8) 24))] : List Int)) ++ ([(IntKind.u8.wrap (Aa .i64 (((s.length : Nat) : Int) * 8) 16))] : List Int)) ++ ([(IntKind.u8.wrap (Aa .i64 (((s.length : Nat) : Int) * 8) 8))] : List Int)) ++ ([(IntKind.u8.wrap (Aa .i64 (((s.length : Nat) : Int) * 8) 0))] : List Int)) rfl Jm underlying38 Ah j8 (qb q0) (Jk.lit (xs := ([(IntKind.u8.wrap (Aa .i64 (((s.length : Nat) : Int) * 8) 0))] : List Int)) Ah) ⟨by omega, by omega⟩ (n := (((((((out_1 ++ ([(IntKind.u8.wrap (Aa .i64 (((s.length : Nat) : Int) * 8) 56))] : List Int)) ++ ([(IntKind.u8.wrap (Aa .i64 (((s.length : Nat) : Int) * 8) 48))] : List Int)) ++ ([(IntKind.u8.wrap (Aa .i64 (((s.length : Nat) : Int) * 8) 40))] : List Int)) ++ ([(IntKind.u8.wrap (Aa .i64 (((s.length : Nat) : Int) * 8) 32))] : List Int)) ++ ([(IntKind.u8.wrap (Aa .i64 (((s.length : Nat) : Int) * 8) 24))] : List Int)) ++ ([(IntKind.u8.wrap (Aa .i64 (((s.length : Nat) : Int) * 8) 16))] : List Int)) ++ ([(IntKind.u8.wrap (Aa .i64 (((s.length : Nat) : Int) * 8) 8))] : List Int)).length) (m := 1) (k := fun ax11 cx11 o8 j9 => ?_);have hal11 : ((((((((out_1 ++ ([(IntKind.u8.wrap (Aa .i64 (((s.length : Nat) : Int) * 8) 56))] : List Int)) ++ ([(IntKind.u8.wrap (Aa .i64 (((s.length : Nat) : Int) * 8) 48))] : List Int)) ++ ([(IntKind.u8.wrap (Aa .i64 (((s.length : Nat) : Int) * 8) 40))] : List Int)) ++ ([(IntKind.u8.wrap (Aa .i64 (((s.length : Nat) : Int) * 8) 32))] : List Int)) ++ ([(IntKind.u8.wrap (Aa .i64 (((s.length : Nat) : Int) * 8) 24))] : List Int)) ++ ([(IntKind.u8.wrap (Aa .i64 (((s.length : Nat) : Int) * 8) 16))] : List Int)) ++ ([(IntKind.u8.wrap (Aa .i64 (((s.length : Nat) : Int) * 8) 8))] : List Int)) ++ ([(IntKind.u8.wrap (Aa .i64 (((s.length : Nat) : Int) * 8) 0))] : List Int)).length = (((((((out_1 ++ ([(IntKind.u8.wrap (Aa .i64 (((s.length : Nat) : Int) * 8) 56))] : List Int)) ++ ([(IntKind.u8.wrap (Aa .i64 (((s.length : Nat) : Int) * 8) 48))] : List Int)) ++ ([(IntKind.u8.wrap (Aa .i64 (((s.length : Nat) : Int) * 8) 40))] : List Int)) ++ ([(IntKind.u8.wrap (Aa .i64 (((s.length : Nat) : Int) * 8) 32))] : List Int)) ++ ([(IntKind.u8.wrap (Aa .i64 (((s.length : Nat) : Int) * 8) 24))] : List Int)) ++ ([(IntKind.u8.wrap (Aa .i64 (((s.length : Nat) : Int) * 8) 16))] : List Int)) ++ ([(IntKind.u8.wrap (Aa .i64 (((s.length : Nat) : Int) * 8) 8))] : List Int)).length + 1 := by first | rfl | exact List.length_append | simp
    refine Z0 ?_;refine yV ?_;refine K9 ?_;refine Z0 ?_;refine L5 ?_;refine yL ?_;refine Jo rfl ?_;refine Hw ?_;refine sF ?_;refine Z2 ?_;refine Z1 ?_;refine Am (tG underlying9 underlying38 underlying5 (j9.slj Ah)) (k := ?_);refine Vq ?_;refine Df results251 Rm (fun w1 hw1 => ?_);exact ⟨(rq ((hF.rn1 (n9.neg a6)))), hw1.ext_out⟩

theorem B5 (w : World) {s : Ep} (n_s : s.length ≤ 1000000) (hG : Gl w) : Zc Tryz.prog 201 [(Value.string (bs s))] w (Value.string (bs (A8 s))) := by
  have hF := Is.refl (A8 s);refine O9 func201 ntmps201 (h := ?_);refine fE ?_;refine El ?_;refine Lf (args := []) (Bc call249) func249 ntmps249 ?_;refine Z5 ?_;refine Dw Fx z22 (k := fun r1 b6 => ?_);refine yM ?_;refine Z57 ?_;refine Z8 ?_;refine Vb ?_;refine Pl results249 (Mt.agg isAgg404 sizeOf404 rfl me rfl Mt.nil) ?_;refine Am (bX (cs := [_, _, _, _, _, _, _, _]) zeroValue407 Q2) (k := ?_);refine Dw Fx (Wu (l := [_, _, _, _, _, _, _, _])) (k := fun r2 b9 => ?_);refine Dw Fx (Ig (l := [_]) zeroValue401) (k := fun r3 o4 => ?_);refine Qe (Dm (l' := [_]) sizeOf401) (k := ?_);refine zF ?_;refine Z5 ?_;refine Lf (args := []) (Bc call249) func249 ntmps249 ?_;refine Z5 ?_;refine Dw Fx z22 (k := fun r4 o5 => ?_);refine yM ?_;refine Z57 ?_;refine Z8 ?_;refine Vb ?_;refine Pl results249 (Mt.agg isAgg404 sizeOf404 rfl me rfl Mt.nil) ?_;refine Dw Fx z22 (k := fun r5 w6 => ?_);refine Qe (Dm (l' := [_, _, _, _, _, _, _, _]) sizeOf404) (k := ?_);refine zF ?_;refine Ka mixed 6 [(true, 0), (true, 1), (true, 2), (true, 3), (true, 4), (true, 5)] fH ?_;refine Av (Bu isAgg401) (k := ?_);refine Av (Mr) (k := ?_);refine Av (Ea Sa) (k := ?_);refine Av (Rt isAgg404 sizeOf404) (k := ?_);refine Av (Rt isAgg404 sizeOf404) (k := ?_);refine Av (L9 (u := (Value.agg [(Value.int .u32 (1779033703)), (Value.int .u32 (3144134277)), (Value.int .u32 (1013904242)), (Value.int .u32 (2773480762)), (Value.int .u32 (1359893119)), (Value.int .u32 (2600822924)), (Value.int .u32 (528734635)), (Value.int .u32 (1541459225))].toArray)) (v := (Value.agg [(Value.int .u32 (1779033703)), (Value.int .u32 (3144134277)), (Value.int .u32 (1013904242)), (Value.int .u32 (2773480762)), (Value.int .u32 (1359893119)), (Value.int .u32 (2600822924)), (Value.int .u32 (528734635)), (Value.int .u32 (1541459225))].toArray)) (b := true) (fun w => by kernel_rfl)) (k := ?_);refine Lk ?_;refine Z8 ?_;refine bO rfl ?_;refine Vp ?_;refine Mv (Bc call251) (fun w1 hw1 => B4 w1 (s := s) (n_s := by first | exact lb | decide)) (k := ?_);refine Lf (args := [_]) (Bc call250) func250 ntmps250 ?_;refine Z5 ?_;refine Dw Fx (Wu (l := [_])) (k := fun r6 o6 => ?_);refine bN ?_;refine El ?_;refine Am (Tt) (k := ?_);refine Vq ?_;refine Pl results250 Rm ?_;refine Z50 ?_;refine gA Fx rfl call306 func306 ntmps306 (fun l7 rD7 rr7 hl7 => ?_);refine mU ?_;refine Kk ?_;refine mM ?_;refine Jz ?_;refine Ie ?_;refine fN (σ1 := Nat) (σ2 := Int) (σ3 := Int) (σ4 := Int) (σ5 := Int) (σ6 := Int) (σ7 := Int) (σ8 := Int) (σ9 := Int) (σ10 := Ep) (fun n_10 x_1 x_2 x_3 x_4 x_5 x_6 x_7 x_8 x_9 => ((l7, Cu rr7 .ready none) :: ((rD7, Obj.deferred (some [])) :: ((r6, Obj.cells [(Value.string (bs x_9))].toArray 9) :: ((r5, Obj.cells [(Value.int .u32 (1779033703)), (Value.int .u32 (3144134277)), (Value.int .u32 (1013904242)), (Value.int .u32 (2773480762)), (Value.int .u32 (1359893119)), (Value.int .u32 (2600822924)), (Value.int .u32 (528734635)), (Value.int .u32 (1541459225))].toArray 404) :: ((r4, Obj.cells [(Value.int .u32 (1779033703)), (Value.int .u32 (3144134277)), (Value.int .u32 (1013904242)), (Value.int .u32 (2773480762)), (Value.int .u32 (1359893119)), (Value.int .u32 (2600822924)), (Value.int .u32 (528734635)), (Value.int .u32 (1541459225))].toArray 404) :: ((r3, Obj.cells [(Value.pointer (some ⟨r2, 0, none⟩))].toArray 401) :: ((r2, Obj.cells [(Value.int .u32 (x_1)), (Value.int .u32 (x_2)), (Value.int .u32 (x_3)), (Value.int .u32 (x_4)), (Value.int .u32 (x_5)), (Value.int .u32 (x_6)), (Value.int .u32 (x_7)), (Value.int .u32 (x_8))].toArray 407) :: ((r1, Obj.cells [(Value.int .u32 (1779033703)), (Value.int .u32 (3144134277)), (Value.int .u32 (1013904242)), (Value.int .u32 (2773480762)), (Value.int .u32 (1359893119)), (Value.int .u32 (2600822924)), (Value.int .u32 (528734635)), (Value.int .u32 (1541459225))].toArray 404) :: []))))))))) (fun n_10 x_1 x_2 x_3 x_4 x_5 x_6 x_7 x_8 x_9 => [(0, (Value.func (.yield l7) [].toArray [].toArray)), (1, (Value.pointer (some ⟨r6, 0, none⟩)))]) (fun n_10 x_1 x_2 x_3 x_4 x_5 x_6 x_7 x_8 x_9 => x_9.length < n_10 ∧ Is (Vz s ((gI s).length + 1) 1779033703 3144134277 1013904242 2773480762 1359893119 2600822924 528734635 1541459225 (gI s)) (Vz s n_10 x_1 x_2 x_3 x_4 x_5 x_6 x_7 x_8 x_9)) (fun n_10 x_1 x_2 x_3 x_4 x_5 x_6 x_7 x_8 x_9 => n_10) ((gI s).length + 1) 1779033703 3144134277 1013904242 2773480762 1359893119 2600822924 528734635 1541459225 (gI s) ?_ se (List.Perm.refl _) ?_
  · exact ⟨Nat.lt_succ_self _, Is.refl _⟩
  · rintro (_ | n_10) x_1 x_2 x_3 x_4 x_5 x_6 x_7 x_8 x_9 ⟨hm12, j6⟩
    · omega
    refine Kk ?_;refine Z5 ?_;refine zG ?_;refine O3 ?_;refine yL ?_;refine Kl rfl (fun a6 => ?_) (fun a6 => ?_);rotate_left
    · refine Hw ?_;refine sF ?_;refine fU ?_;refine tA (.inr rfl) results306 q0 ?_;refine Kn ?_;refine Z2 ?_;refine El ?_;refine bN ?_;refine Z5 ?_;refine Am (Bu isAgg401) (k := ?_);refine Am (Mr) (k := ?_);refine Am (Ea Sa) (k := ?_);refine Am (Rt isAgg404 sizeOf404) (k := ?_);refine Z54 ?_;refine Xd ?_;refine Z42 ?_;refine Z5 ?_;refine Am (Nr (m := 0) runUnderlying404 sizeOf402 isAgg402) (k := ?_);refine yN ?_;refine fI ?_;refine fI ?_;refine K7 ?_;refine Dw Fx K4 (k := fun d9 m8 => ?_);refine Bw ([(IntKind.u8.wrap (Aa .u32 x_1 24)), (IntKind.u8.wrap (Aa .u32 x_1 16)), (IntKind.u8.wrap (Aa .u32 x_1 8)), (IntKind.u8.wrap x_1)] : List Int) (List.nil_append _) Jm underlying38 Ah Bg.nil (List.Perm.refl _) (Jk.lit (xs := ([(IntKind.u8.wrap (Aa .u32 x_1 24)), (IntKind.u8.wrap (Aa .u32 x_1 16)), (IntKind.u8.wrap (Aa .u32 x_1 8)), (IntKind.u8.wrap x_1)] : List Int)) Ah) ⟨by first | omega | (simp; done) | (simp; omega), by first | omega | (simp; done) | (simp; omega)⟩ (n := 0) (m := 4) (k := fun ax1 cx1 i6 b5 => ?_);refine Z0 ?_;refine mL ?_;refine Z5 ?_;refine Am (Nr (m := 1) runUnderlying404 sizeOf402 isAgg402) (k := ?_);refine yN ?_;refine fI ?_;refine fI ?_;refine K7 ?_;refine Dw Fx K4 (k := fun y7 p8 => ?_);refine Bw (([(IntKind.u8.wrap (Aa .u32 x_1 24)), (IntKind.u8.wrap (Aa .u32 x_1 16)), (IntKind.u8.wrap (Aa .u32 x_1 8)), (IntKind.u8.wrap x_1)] : List Int) ++ ([(IntKind.u8.wrap (Aa .u32 x_2 24)), (IntKind.u8.wrap (Aa .u32 x_2 16)), (IntKind.u8.wrap (Aa .u32 x_2 8)), (IntKind.u8.wrap x_2)] : List Int)) rfl Jm underlying38 Ah b5 (qb q0) (Jk.lit (xs := ([(IntKind.u8.wrap (Aa .u32 x_2 24)), (IntKind.u8.wrap (Aa .u32 x_2 16)), (IntKind.u8.wrap (Aa .u32 x_2 8)), (IntKind.u8.wrap x_2)] : List Int)) Ah) ⟨by first | omega | (simp; done) | (simp; omega), by first | omega | (simp; done) | (simp; omega)⟩ (n := ([(IntKind.u8.wrap (Aa .u32 x_1 24)), (IntKind.u8.wrap (Aa .u32 x_1 16)), (IntKind.u8.wrap (Aa .u32 x_1 8)), (IntKind.u8.wrap x_1)] : List Int).length) (m := 4) (k := fun ax2 cx2 l6 d4 => ?_);have hal2 : (([(IntKind.u8.wrap (Aa .u32 x_1 24)), (IntKind.u8.wrap (Aa .u32 x_1 16)), (IntKind.u8.wrap (Aa .u32 x_1 8)), (IntKind.u8.wrap x_1)] : List Int) ++ ([(IntKind.u8.wrap (Aa .u32 x_2 24)), (IntKind.u8.wrap (Aa .u32 x_2 16)), (IntKind.u8.wrap (Aa .u32 x_2 8)), (IntKind.u8.wrap x_2)] : List Int)).length = ([(IntKind.u8.wrap (Aa .u32 x_1 24)), (IntKind.u8.wrap (Aa .u32 x_1 16)), (IntKind.u8.wrap (Aa .u32 x_1 8)), (IntKind.u8.wrap x_1)] : List Int).length + 4 := by first | rfl | exact List.length_append | simp
      refine Z0 ?_;refine mL ?_;refine Z5 ?_;refine Am (Nr (m := 2) runUnderlying404 sizeOf402 isAgg402) (k := ?_);refine yN ?_;refine fI ?_;refine fI ?_;refine K7 ?_;refine Dw Fx K4 (k := fun y8 p9 => ?_);refine Bw ((([(IntKind.u8.wrap (Aa .u32 x_1 24)), (IntKind.u8.wrap (Aa .u32 x_1 16)), (IntKind.u8.wrap (Aa .u32 x_1 8)), (IntKind.u8.wrap x_1)] : List Int) ++ ([(IntKind.u8.wrap (Aa .u32 x_2 24)), (IntKind.u8.wrap (Aa .u32 x_2 16)), (IntKind.u8.wrap (Aa .u32 x_2 8)), (IntKind.u8.wrap x_2)] : List Int)) ++ ([(IntKind.u8.wrap (Aa .u32 x_3 24)), (IntKind.u8.wrap (Aa .u32 x_3 16)), (IntKind.u8.wrap (Aa .u32 x_3 8)), (IntKind.u8.wrap x_3)] : List Int)) rfl Jm underlying38 Ah d4 (qb q0) (Jk.lit (xs := ([(IntKind.u8.wrap (Aa .u32 x_3 24)), (IntKind.u8.wrap (Aa .u32 x_3 16)), (IntKind.u8.wrap (Aa .u32 x_3 8)), (IntKind.u8.wrap x_3)] : List Int)) Ah) ⟨by first | omega | (simp; done) | (simp; omega), by first | omega | (simp; done) | (simp; omega)⟩ (n := (([(IntKind.u8.wrap (Aa .u32 x_1 24)), (IntKind.u8.wrap (Aa .u32 x_1 16)), (IntKind.u8.wrap (Aa .u32 x_1 8)), (IntKind.u8.wrap x_1)] : List Int) ++ ([(IntKind.u8.wrap (Aa .u32 x_2 24)), (IntKind.u8.wrap (Aa .u32 x_2 16)), (IntKind.u8.wrap (Aa .u32 x_2 8)), (IntKind.u8.wrap x_2)] : List Int)).length) (m := 4) (k := fun ax3 cx3 l8 d5 => ?_);have hal3 : ((([(IntKind.u8.wrap (Aa .u32 x_1 24)), (IntKind.u8.wrap (Aa .u32 x_1 16)), (IntKind.u8.wrap (Aa .u32 x_1 8)), (IntKind.u8.wrap x_1)] : List Int) ++ ([(IntKind.u8.wrap (Aa .u32 x_2 24)), (IntKind.u8.wrap (Aa .u32 x_2 16)), (IntKind.u8.wrap (Aa .u32 x_2 8)), (IntKind.u8.wrap x_2)] : List Int)) ++ ([(IntKind.u8.wrap (Aa .u32 x_3 24)), (IntKind.u8.wrap (Aa .u32 x_3 16)), (IntKind.u8.wrap (Aa .u32 x_3 8)), (IntKind.u8.wrap x_3)] : List Int)).length = (([(IntKind.u8.wrap (Aa .u32 x_1 24)), (IntKind.u8.wrap (Aa .u32 x_1 16)), (IntKind.u8.wrap (Aa .u32 x_1 8)), (IntKind.u8.wrap x_1)] : List Int) ++ ([(IntKind.u8.wrap (Aa .u32 x_2 24)), (IntKind.u8.wrap (Aa .u32 x_2 16)), (IntKind.u8.wrap (Aa .u32 x_2 8)), (IntKind.u8.wrap x_2)] : List Int)).length + 4 := by first | rfl | exact List.length_append | simp
      refine Z0 ?_;refine mL ?_;refine Z5 ?_;refine Am (Nr (m := 3) runUnderlying404 sizeOf402 isAgg402) (k := ?_);refine yN ?_;refine fI ?_;refine fI ?_;refine K7 ?_;refine Dw Fx K4 (k := fun y9 t6 => ?_);refine Bw (((([(IntKind.u8.wrap (Aa .u32 x_1 24)), (IntKind.u8.wrap (Aa .u32 x_1 16)), (IntKind.u8.wrap (Aa .u32 x_1 8)), (IntKind.u8.wrap x_1)] : List Int) ++ ([(IntKind.u8.wrap (Aa .u32 x_2 24)), (IntKind.u8.wrap (Aa .u32 x_2 16)), (IntKind.u8.wrap (Aa .u32 x_2 8)), (IntKind.u8.wrap x_2)] : List Int)) ++ ([(IntKind.u8.wrap (Aa .u32 x_3 24)), (IntKind.u8.wrap (Aa .u32 x_3 16)), (IntKind.u8.wrap (Aa .u32 x_3 8)), (IntKind.u8.wrap x_3)] : List Int)) ++ ([(IntKind.u8.wrap (Aa .u32 x_4 24)), (IntKind.u8.wrap (Aa .u32 x_4 16)), (IntKind.u8.wrap (Aa .u32 x_4 8)), (IntKind.u8.wrap x_4)] : List Int)) rfl Jm underlying38 Ah d5 (qb q0) (Jk.lit (xs := ([(IntKind.u8.wrap (Aa .u32 x_4 24)), (IntKind.u8.wrap (Aa .u32 x_4 16)), (IntKind.u8.wrap (Aa .u32 x_4 8)), (IntKind.u8.wrap x_4)] : List Int)) Ah) ⟨by first | omega | (simp; done) | (simp; omega), by first | omega | (simp; done) | (simp; omega)⟩ (n := ((([(IntKind.u8.wrap (Aa .u32 x_1 24)), (IntKind.u8.wrap (Aa .u32 x_1 16)), (IntKind.u8.wrap (Aa .u32 x_1 8)), (IntKind.u8.wrap x_1)] : List Int) ++ ([(IntKind.u8.wrap (Aa .u32 x_2 24)), (IntKind.u8.wrap (Aa .u32 x_2 16)), (IntKind.u8.wrap (Aa .u32 x_2 8)), (IntKind.u8.wrap x_2)] : List Int)) ++ ([(IntKind.u8.wrap (Aa .u32 x_3 24)), (IntKind.u8.wrap (Aa .u32 x_3 16)), (IntKind.u8.wrap (Aa .u32 x_3 8)), (IntKind.u8.wrap x_3)] : List Int)).length) (m := 4) (k := fun ax4 cx4 o9 e5 => ?_);have hal4 : (((([(IntKind.u8.wrap (Aa .u32 x_1 24)), (IntKind.u8.wrap (Aa .u32 x_1 16)), (IntKind.u8.wrap (Aa .u32 x_1 8)), (IntKind.u8.wrap x_1)] : List Int) ++ ([(IntKind.u8.wrap (Aa .u32 x_2 24)), (IntKind.u8.wrap (Aa .u32 x_2 16)), (IntKind.u8.wrap (Aa .u32 x_2 8)), (IntKind.u8.wrap x_2)] : List Int)) ++ ([(IntKind.u8.wrap (Aa .u32 x_3 24)), (IntKind.u8.wrap (Aa .u32 x_3 16)), (IntKind.u8.wrap (Aa .u32 x_3 8)), (IntKind.u8.wrap x_3)] : List Int)) ++ ([(IntKind.u8.wrap (Aa .u32 x_4 24)), (IntKind.u8.wrap (Aa .u32 x_4 16)), (IntKind.u8.wrap (Aa .u32 x_4 8)), (IntKind.u8.wrap x_4)] : List Int)).length = ((([(IntKind.u8.wrap (Aa .u32 x_1 24)), (IntKind.u8.wrap (Aa .u32 x_1 16)), (IntKind.u8.wrap (Aa .u32 x_1 8)), (IntKind.u8.wrap x_1)] : List Int) ++ ([(IntKind.u8.wrap (Aa .u32 x_2 24)), (IntKind.u8.wrap (Aa .u32 x_2 16)), (IntKind.u8.wrap (Aa .u32 x_2 8)), (IntKind.u8.wrap x_2)] : List Int)) ++ ([(IntKind.u8.wrap (Aa .u32 x_3 24)), (IntKind.u8.wrap (Aa .u32 x_3 16)), (IntKind.u8.wrap (Aa .u32 x_3 8)), (IntKind.u8.wrap x_3)] : List Int)).length + 4 := by first | rfl | exact List.length_append | simp
      refine Z0 ?_;refine mL ?_;refine Z5 ?_;refine Am (Nr (m := 4) runUnderlying404 sizeOf402 isAgg402) (k := ?_);refine yN ?_;refine fI ?_;refine fI ?_;refine K7 ?_;refine Dw Fx K4 (k := fun aa t7 => ?_);refine Bw ((((([(IntKind.u8.wrap (Aa .u32 x_1 24)), (IntKind.u8.wrap (Aa .u32 x_1 16)), (IntKind.u8.wrap (Aa .u32 x_1 8)), (IntKind.u8.wrap x_1)] : List Int) ++ ([(IntKind.u8.wrap (Aa .u32 x_2 24)), (IntKind.u8.wrap (Aa .u32 x_2 16)), (IntKind.u8.wrap (Aa .u32 x_2 8)), (IntKind.u8.wrap x_2)] : List Int)) ++ ([(IntKind.u8.wrap (Aa .u32 x_3 24)), (IntKind.u8.wrap (Aa .u32 x_3 16)), (IntKind.u8.wrap (Aa .u32 x_3 8)), (IntKind.u8.wrap x_3)] : List Int)) ++ ([(IntKind.u8.wrap (Aa .u32 x_4 24)), (IntKind.u8.wrap (Aa .u32 x_4 16)), (IntKind.u8.wrap (Aa .u32 x_4 8)), (IntKind.u8.wrap x_4)] : List Int)) ++ ([(IntKind.u8.wrap (Aa .u32 x_5 24)), (IntKind.u8.wrap (Aa .u32 x_5 16)), (IntKind.u8.wrap (Aa .u32 x_5 8)), (IntKind.u8.wrap x_5)] : List Int)) rfl Jm underlying38 Ah e5 (qb q0) (Jk.lit (xs := ([(IntKind.u8.wrap (Aa .u32 x_5 24)), (IntKind.u8.wrap (Aa .u32 x_5 16)), (IntKind.u8.wrap (Aa .u32 x_5 8)), (IntKind.u8.wrap x_5)] : List Int)) Ah) ⟨by first | omega | (simp; done) | (simp; omega), by first | omega | (simp; done) | (simp; omega)⟩ (n := (((([(IntKind.u8.wrap (Aa .u32 x_1 24)), (IntKind.u8.wrap (Aa .u32 x_1 16)), (IntKind.u8.wrap (Aa .u32 x_1 8)), (IntKind.u8.wrap x_1)] : List Int) ++ ([(IntKind.u8.wrap (Aa .u32 x_2 24)), (IntKind.u8.wrap (Aa .u32 x_2 16)), (IntKind.u8.wrap (Aa .u32 x_2 8)), (IntKind.u8.wrap x_2)] : List Int)) ++ ([(IntKind.u8.wrap (Aa .u32 x_3 24)), (IntKind.u8.wrap (Aa .u32 x_3 16)), (IntKind.u8.wrap (Aa .u32 x_3 8)), (IntKind.u8.wrap x_3)] : List Int)) ++ ([(IntKind.u8.wrap (Aa .u32 x_4 24)), (IntKind.u8.wrap (Aa .u32 x_4 16)), (IntKind.u8.wrap (Aa .u32 x_4 8)), (IntKind.u8.wrap x_4)] : List Int)).length) (m := 4) (k := fun ax5 cx5 p0 e6 => ?_);have hal5 : ((((([(IntKind.u8.wrap (Aa .u32 x_1 24)), (IntKind.u8.wrap (Aa .u32 x_1 16)), (IntKind.u8.wrap (Aa .u32 x_1 8)), (IntKind.u8.wrap x_1)] : List Int) ++ ([(IntKind.u8.wrap (Aa .u32 x_2 24)), (IntKind.u8.wrap (Aa .u32 x_2 16)), (IntKind.u8.wrap (Aa .u32 x_2 8)), (IntKind.u8.wrap x_2)] : List Int)) ++ ([(IntKind.u8.wrap (Aa .u32 x_3 24)), (IntKind.u8.wrap (Aa .u32 x_3 16)), (IntKind.u8.wrap (Aa .u32 x_3 8)), (IntKind.u8.wrap x_3)] : List Int)) ++ ([(IntKind.u8.wrap (Aa .u32 x_4 24)), (IntKind.u8.wrap (Aa .u32 x_4 16)), (IntKind.u8.wrap (Aa .u32 x_4 8)), (IntKind.u8.wrap x_4)] : List Int)) ++ ([(IntKind.u8.wrap (Aa .u32 x_5 24)), (IntKind.u8.wrap (Aa .u32 x_5 16)), (IntKind.u8.wrap (Aa .u32 x_5 8)), (IntKind.u8.wrap x_5)] : List Int)).length = (((([(IntKind.u8.wrap (Aa .u32 x_1 24)), (IntKind.u8.wrap (Aa .u32 x_1 16)), (IntKind.u8.wrap (Aa .u32 x_1 8)), (IntKind.u8.wrap x_1)] : List Int) ++ ([(IntKind.u8.wrap (Aa .u32 x_2 24)), (IntKind.u8.wrap (Aa .u32 x_2 16)), (IntKind.u8.wrap (Aa .u32 x_2 8)), (IntKind.u8.wrap x_2)] : List Int)) ++ ([(IntKind.u8.wrap (Aa .u32 x_3 24)), (IntKind.u8.wrap (Aa .u32 x_3 16)), (IntKind.u8.wrap (Aa .u32 x_3 8)), (IntKind.u8.wrap x_3)] : List Int)) ++ ([(IntKind.u8.wrap (Aa .u32 x_4 24)), (IntKind.u8.wrap (Aa .u32 x_4 16)), (IntKind.u8.wrap (Aa .u32 x_4 8)), (IntKind.u8.wrap x_4)] : List Int)).length + 4 := by first | rfl | exact List.length_append | simp
      refine Z0 ?_;refine mL ?_;refine Z5 ?_;refine Am (Nr (m := 5) runUnderlying404 sizeOf402 isAgg402) (k := ?_);refine yN ?_;refine fI ?_;refine fI ?_;refine K7 ?_;refine Dw Fx K4 (k := fun ab t8 => ?_);refine Bw (((((([(IntKind.u8.wrap (Aa .u32 x_1 24)), (IntKind.u8.wrap (Aa .u32 x_1 16)), (IntKind.u8.wrap (Aa .u32 x_1 8)), (IntKind.u8.wrap x_1)] : List Int) ++ ([(IntKind.u8.wrap (Aa .u32 x_2 24)), (IntKind.u8.wrap (Aa .u32 x_2 16)), (IntKind.u8.wrap (Aa .u32 x_2 8)), (IntKind.u8.wrap x_2)] : List Int)) ++ ([(IntKind.u8.wrap (Aa .u32 x_3 24)), (IntKind.u8.wrap (Aa .u32 x_3 16)), (IntKind.u8.wrap (Aa .u32 x_3 8)), (IntKind.u8.wrap x_3)] : List Int)) ++ ([(IntKind.u8.wrap (Aa .u32 x_4 24)), (IntKind.u8.wrap (Aa .u32 x_4 16)), (IntKind.u8.wrap (Aa .u32 x_4 8)), (IntKind.u8.wrap x_4)] : List Int)) ++ ([(IntKind.u8.wrap (Aa .u32 x_5 24)), (IntKind.u8.wrap (Aa .u32 x_5 16)), (IntKind.u8.wrap (Aa .u32 x_5 8)), (IntKind.u8.wrap x_5)] : List Int)) ++ ([(IntKind.u8.wrap (Aa .u32 x_6 24)), (IntKind.u8.wrap (Aa .u32 x_6 16)), (IntKind.u8.wrap (Aa .u32 x_6 8)), (IntKind.u8.wrap x_6)] : List Int)) rfl Jm underlying38 Ah e6 (qb q0) (Jk.lit (xs := ([(IntKind.u8.wrap (Aa .u32 x_6 24)), (IntKind.u8.wrap (Aa .u32 x_6 16)), (IntKind.u8.wrap (Aa .u32 x_6 8)), (IntKind.u8.wrap x_6)] : List Int)) Ah) ⟨by first | omega | (simp; done) | (simp; omega), by first | omega | (simp; done) | (simp; omega)⟩ (n := ((((([(IntKind.u8.wrap (Aa .u32 x_1 24)), (IntKind.u8.wrap (Aa .u32 x_1 16)), (IntKind.u8.wrap (Aa .u32 x_1 8)), (IntKind.u8.wrap x_1)] : List Int) ++ ([(IntKind.u8.wrap (Aa .u32 x_2 24)), (IntKind.u8.wrap (Aa .u32 x_2 16)), (IntKind.u8.wrap (Aa .u32 x_2 8)), (IntKind.u8.wrap x_2)] : List Int)) ++ ([(IntKind.u8.wrap (Aa .u32 x_3 24)), (IntKind.u8.wrap (Aa .u32 x_3 16)), (IntKind.u8.wrap (Aa .u32 x_3 8)), (IntKind.u8.wrap x_3)] : List Int)) ++ ([(IntKind.u8.wrap (Aa .u32 x_4 24)), (IntKind.u8.wrap (Aa .u32 x_4 16)), (IntKind.u8.wrap (Aa .u32 x_4 8)), (IntKind.u8.wrap x_4)] : List Int)) ++ ([(IntKind.u8.wrap (Aa .u32 x_5 24)), (IntKind.u8.wrap (Aa .u32 x_5 16)), (IntKind.u8.wrap (Aa .u32 x_5 8)), (IntKind.u8.wrap x_5)] : List Int)).length) (m := 4) (k := fun ax6 cx6 p4 e7 => ?_);have hal6 : (((((([(IntKind.u8.wrap (Aa .u32 x_1 24)), (IntKind.u8.wrap (Aa .u32 x_1 16)), (IntKind.u8.wrap (Aa .u32 x_1 8)), (IntKind.u8.wrap x_1)] : List Int) ++ ([(IntKind.u8.wrap (Aa .u32 x_2 24)), (IntKind.u8.wrap (Aa .u32 x_2 16)), (IntKind.u8.wrap (Aa .u32 x_2 8)), (IntKind.u8.wrap x_2)] : List Int)) ++ ([(IntKind.u8.wrap (Aa .u32 x_3 24)), (IntKind.u8.wrap (Aa .u32 x_3 16)), (IntKind.u8.wrap (Aa .u32 x_3 8)), (IntKind.u8.wrap x_3)] : List Int)) ++ ([(IntKind.u8.wrap (Aa .u32 x_4 24)), (IntKind.u8.wrap (Aa .u32 x_4 16)), (IntKind.u8.wrap (Aa .u32 x_4 8)), (IntKind.u8.wrap x_4)] : List Int)) ++ ([(IntKind.u8.wrap (Aa .u32 x_5 24)), (IntKind.u8.wrap (Aa .u32 x_5 16)), (IntKind.u8.wrap (Aa .u32 x_5 8)), (IntKind.u8.wrap x_5)] : List Int)) ++ ([(IntKind.u8.wrap (Aa .u32 x_6 24)), (IntKind.u8.wrap (Aa .u32 x_6 16)), (IntKind.u8.wrap (Aa .u32 x_6 8)), (IntKind.u8.wrap x_6)] : List Int)).length = ((((([(IntKind.u8.wrap (Aa .u32 x_1 24)), (IntKind.u8.wrap (Aa .u32 x_1 16)), (IntKind.u8.wrap (Aa .u32 x_1 8)), (IntKind.u8.wrap x_1)] : List Int) ++ ([(IntKind.u8.wrap (Aa .u32 x_2 24)), (IntKind.u8.wrap (Aa .u32 x_2 16)), (IntKind.u8.wrap (Aa .u32 x_2 8)), (IntKind.u8.wrap x_2)] : List Int)) ++ ([(IntKind.u8.wrap (Aa .u32 x_3 24)), (IntKind.u8.wrap (Aa .u32 x_3 16)), (IntKind.u8.wrap (Aa .u32 x_3 8)), (IntKind.u8.wrap x_3)] : List Int)) ++ ([(IntKind.u8.wrap (Aa .u32 x_4 24)), (IntKind.u8.wrap (Aa .u32 x_4 16)), (IntKind.u8.wrap (Aa .u32 x_4 8)), (IntKind.u8.wrap x_4)] : List Int)) ++ ([(IntKind.u8.wrap (Aa .u32 x_5 24)), (IntKind.u8.wrap (Aa .u32 x_5 16)), (IntKind.u8.wrap (Aa .u32 x_5 8)), (IntKind.u8.wrap x_5)] : List Int)).length + 4 := by first | rfl | exact List.length_append | simp
      refine Z0 ?_;refine mL ?_;refine Z5 ?_;refine Am (Nr (m := 6) runUnderlying404 sizeOf402 isAgg402) (k := ?_);refine yN ?_;refine fI ?_;refine fI ?_;refine K7 ?_;refine Dw Fx K4 (k := fun ae u0 => ?_);refine Bw ((((((([(IntKind.u8.wrap (Aa .u32 x_1 24)), (IntKind.u8.wrap (Aa .u32 x_1 16)), (IntKind.u8.wrap (Aa .u32 x_1 8)), (IntKind.u8.wrap x_1)] : List Int) ++ ([(IntKind.u8.wrap (Aa .u32 x_2 24)), (IntKind.u8.wrap (Aa .u32 x_2 16)), (IntKind.u8.wrap (Aa .u32 x_2 8)), (IntKind.u8.wrap x_2)] : List Int)) ++ ([(IntKind.u8.wrap (Aa .u32 x_3 24)), (IntKind.u8.wrap (Aa .u32 x_3 16)), (IntKind.u8.wrap (Aa .u32 x_3 8)), (IntKind.u8.wrap x_3)] : List Int)) ++ ([(IntKind.u8.wrap (Aa .u32 x_4 24)), (IntKind.u8.wrap (Aa .u32 x_4 16)), (IntKind.u8.wrap (Aa .u32 x_4 8)), (IntKind.u8.wrap x_4)] : List Int)) ++ ([(IntKind.u8.wrap (Aa .u32 x_5 24)), (IntKind.u8.wrap (Aa .u32 x_5 16)), (IntKind.u8.wrap (Aa .u32 x_5 8)), (IntKind.u8.wrap x_5)] : List Int)) ++ ([(IntKind.u8.wrap (Aa .u32 x_6 24)), (IntKind.u8.wrap (Aa .u32 x_6 16)), (IntKind.u8.wrap (Aa .u32 x_6 8)), (IntKind.u8.wrap x_6)] : List Int)) ++ ([(IntKind.u8.wrap (Aa .u32 x_7 24)), (IntKind.u8.wrap (Aa .u32 x_7 16)), (IntKind.u8.wrap (Aa .u32 x_7 8)), (IntKind.u8.wrap x_7)] : List Int)) rfl Jm underlying38 Ah e7 (qb q0) (Jk.lit (xs := ([(IntKind.u8.wrap (Aa .u32 x_7 24)), (IntKind.u8.wrap (Aa .u32 x_7 16)), (IntKind.u8.wrap (Aa .u32 x_7 8)), (IntKind.u8.wrap x_7)] : List Int)) Ah) ⟨by first | omega | (simp; done) | (simp; omega), by first | omega | (simp; done) | (simp; omega)⟩ (n := (((((([(IntKind.u8.wrap (Aa .u32 x_1 24)), (IntKind.u8.wrap (Aa .u32 x_1 16)), (IntKind.u8.wrap (Aa .u32 x_1 8)), (IntKind.u8.wrap x_1)] : List Int) ++ ([(IntKind.u8.wrap (Aa .u32 x_2 24)), (IntKind.u8.wrap (Aa .u32 x_2 16)), (IntKind.u8.wrap (Aa .u32 x_2 8)), (IntKind.u8.wrap x_2)] : List Int)) ++ ([(IntKind.u8.wrap (Aa .u32 x_3 24)), (IntKind.u8.wrap (Aa .u32 x_3 16)), (IntKind.u8.wrap (Aa .u32 x_3 8)), (IntKind.u8.wrap x_3)] : List Int)) ++ ([(IntKind.u8.wrap (Aa .u32 x_4 24)), (IntKind.u8.wrap (Aa .u32 x_4 16)), (IntKind.u8.wrap (Aa .u32 x_4 8)), (IntKind.u8.wrap x_4)] : List Int)) ++ ([(IntKind.u8.wrap (Aa .u32 x_5 24)), (IntKind.u8.wrap (Aa .u32 x_5 16)), (IntKind.u8.wrap (Aa .u32 x_5 8)), (IntKind.u8.wrap x_5)] : List Int)) ++ ([(IntKind.u8.wrap (Aa .u32 x_6 24)), (IntKind.u8.wrap (Aa .u32 x_6 16)), (IntKind.u8.wrap (Aa .u32 x_6 8)), (IntKind.u8.wrap x_6)] : List Int)).length) (m := 4) (k := fun ax7 cx7 p5 e8 => ?_);have hal7 : ((((((([(IntKind.u8.wrap (Aa .u32 x_1 24)), (IntKind.u8.wrap (Aa .u32 x_1 16)), (IntKind.u8.wrap (Aa .u32 x_1 8)), (IntKind.u8.wrap x_1)] : List Int) ++ ([(IntKind.u8.wrap (Aa .u32 x_2 24)), (IntKind.u8.wrap (Aa .u32 x_2 16)), (IntKind.u8.wrap (Aa .u32 x_2 8)), (IntKind.u8.wrap x_2)] : List Int)) ++ ([(IntKind.u8.wrap (Aa .u32 x_3 24)), (IntKind.u8.wrap (Aa .u32 x_3 16)), (IntKind.u8.wrap (Aa .u32 x_3 8)), (IntKind.u8.wrap x_3)] : List Int)) ++ ([(IntKind.u8.wrap (Aa .u32 x_4 24)), (IntKind.u8.wrap (Aa .u32 x_4 16)), (IntKind.u8.wrap (Aa .u32 x_4 8)), (IntKind.u8.wrap x_4)] : List Int)) ++ ([(IntKind.u8.wrap (Aa .u32 x_5 24)), (IntKind.u8.wrap (Aa .u32 x_5 16)), (IntKind.u8.wrap (Aa .u32 x_5 8)), (IntKind.u8.wrap x_5)] : List Int)) ++ ([(IntKind.u8.wrap (Aa .u32 x_6 24)), (IntKind.u8.wrap (Aa .u32 x_6 16)), (IntKind.u8.wrap (Aa .u32 x_6 8)), (IntKind.u8.wrap x_6)] : List Int)) ++ ([(IntKind.u8.wrap (Aa .u32 x_7 24)), (IntKind.u8.wrap (Aa .u32 x_7 16)), (IntKind.u8.wrap (Aa .u32 x_7 8)), (IntKind.u8.wrap x_7)] : List Int)).length = (((((([(IntKind.u8.wrap (Aa .u32 x_1 24)), (IntKind.u8.wrap (Aa .u32 x_1 16)), (IntKind.u8.wrap (Aa .u32 x_1 8)), (IntKind.u8.wrap x_1)] : List Int) ++ ([(IntKind.u8.wrap (Aa .u32 x_2 24)), (IntKind.u8.wrap (Aa .u32 x_2 16)), (IntKind.u8.wrap (Aa .u32 x_2 8)), (IntKind.u8.wrap x_2)] : List Int)) ++ ([(IntKind.u8.wrap (Aa .u32 x_3 24)), (IntKind.u8.wrap (Aa .u32 x_3 16)), (IntKind.u8.wrap (Aa .u32 x_3 8)), (IntKind.u8.wrap x_3)] : List Int)) ++ ([(IntKind.u8.wrap (Aa .u32 x_4 24)), (IntKind.u8.wrap (Aa .u32 x_4 16)), (IntKind.u8.wrap (Aa .u32 x_4 8)), (IntKind.u8.wrap x_4)] : List Int)) ++ ([(IntKind.u8.wrap (Aa .u32 x_5 24)), (IntKind.u8.wrap (Aa .u32 x_5 16)), (IntKind.u8.wrap (Aa .u32 x_5 8)), (IntKind.u8.wrap x_5)] : List Int)) ++ ([(IntKind.u8.wrap (Aa .u32 x_6 24)), (IntKind.u8.wrap (Aa .u32 x_6 16)), (IntKind.u8.wrap (Aa .u32 x_6 8)), (IntKind.u8.wrap x_6)] : List Int)).length + 4 := by first | rfl | exact List.length_append | simp
      refine Z0 ?_;refine mL ?_;refine Z5 ?_;refine Am (Nr (m := 7) runUnderlying404 sizeOf402 isAgg402) (k := ?_);refine yN ?_;refine fI ?_;refine fI ?_;refine K7 ?_;refine Dw Fx K4 (k := fun af v8 => ?_);refine Bw (((((((([(IntKind.u8.wrap (Aa .u32 x_1 24)), (IntKind.u8.wrap (Aa .u32 x_1 16)), (IntKind.u8.wrap (Aa .u32 x_1 8)), (IntKind.u8.wrap x_1)] : List Int) ++ ([(IntKind.u8.wrap (Aa .u32 x_2 24)), (IntKind.u8.wrap (Aa .u32 x_2 16)), (IntKind.u8.wrap (Aa .u32 x_2 8)), (IntKind.u8.wrap x_2)] : List Int)) ++ ([(IntKind.u8.wrap (Aa .u32 x_3 24)), (IntKind.u8.wrap (Aa .u32 x_3 16)), (IntKind.u8.wrap (Aa .u32 x_3 8)), (IntKind.u8.wrap x_3)] : List Int)) ++ ([(IntKind.u8.wrap (Aa .u32 x_4 24)), (IntKind.u8.wrap (Aa .u32 x_4 16)), (IntKind.u8.wrap (Aa .u32 x_4 8)), (IntKind.u8.wrap x_4)] : List Int)) ++ ([(IntKind.u8.wrap (Aa .u32 x_5 24)), (IntKind.u8.wrap (Aa .u32 x_5 16)), (IntKind.u8.wrap (Aa .u32 x_5 8)), (IntKind.u8.wrap x_5)] : List Int)) ++ ([(IntKind.u8.wrap (Aa .u32 x_6 24)), (IntKind.u8.wrap (Aa .u32 x_6 16)), (IntKind.u8.wrap (Aa .u32 x_6 8)), (IntKind.u8.wrap x_6)] : List Int)) ++ ([(IntKind.u8.wrap (Aa .u32 x_7 24)), (IntKind.u8.wrap (Aa .u32 x_7 16)), (IntKind.u8.wrap (Aa .u32 x_7 8)), (IntKind.u8.wrap x_7)] : List Int)) ++ ([(IntKind.u8.wrap (Aa .u32 x_8 24)), (IntKind.u8.wrap (Aa .u32 x_8 16)), (IntKind.u8.wrap (Aa .u32 x_8 8)), (IntKind.u8.wrap x_8)] : List Int)) rfl Jm underlying38 Ah e8 (qb q0) (Jk.lit (xs := ([(IntKind.u8.wrap (Aa .u32 x_8 24)), (IntKind.u8.wrap (Aa .u32 x_8 16)), (IntKind.u8.wrap (Aa .u32 x_8 8)), (IntKind.u8.wrap x_8)] : List Int)) Ah) ⟨by first | omega | (simp; done) | (simp; omega), by first | omega | (simp; done) | (simp; omega)⟩ (n := ((((((([(IntKind.u8.wrap (Aa .u32 x_1 24)), (IntKind.u8.wrap (Aa .u32 x_1 16)), (IntKind.u8.wrap (Aa .u32 x_1 8)), (IntKind.u8.wrap x_1)] : List Int) ++ ([(IntKind.u8.wrap (Aa .u32 x_2 24)), (IntKind.u8.wrap (Aa .u32 x_2 16)), (IntKind.u8.wrap (Aa .u32 x_2 8)), (IntKind.u8.wrap x_2)] : List Int)) ++ ([(IntKind.u8.wrap (Aa .u32 x_3 24)), (IntKind.u8.wrap (Aa .u32 x_3 16)), (IntKind.u8.wrap (Aa .u32 x_3 8)), (IntKind.u8.wrap x_3)] : List Int)) ++ ([(IntKind.u8.wrap (Aa .u32 x_4 24)), (IntKind.u8.wrap (Aa .u32 x_4 16)), (IntKind.u8.wrap (Aa .u32 x_4 8)), (IntKind.u8.wrap x_4)] : List Int)) ++ ([(IntKind.u8.wrap (Aa .u32 x_5 24)), (IntKind.u8.wrap (Aa .u32 x_5 16)), (IntKind.u8.wrap (Aa .u32 x_5 8)), (IntKind.u8.wrap x_5)] : List Int)) ++ ([(IntKind.u8.wrap (Aa .u32 x_6 24)), (IntKind.u8.wrap (Aa .u32 x_6 16)), (IntKind.u8.wrap (Aa .u32 x_6 8)), (IntKind.u8.wrap x_6)] : List Int)) ++ ([(IntKind.u8.wrap (Aa .u32 x_7 24)), (IntKind.u8.wrap (Aa .u32 x_7 16)), (IntKind.u8.wrap (Aa .u32 x_7 8)), (IntKind.u8.wrap x_7)] : List Int)).length) (m := 4) (k := fun ax8 cx8 p6 e9 => ?_);have hal8 : (((((((([(IntKind.u8.wrap (Aa .u32 x_1 24)), (IntKind.u8.wrap (Aa .u32 x_1 16)), (IntKind.u8.wrap (Aa .u32 x_1 8)), (IntKind.u8.wrap x_1)] : List Int) ++ ([(IntKind.u8.wrap (Aa .u32 x_2 24)), (IntKind.u8.wrap (Aa .u32 x_2 16)), (IntKind.u8.wrap (Aa .u32 x_2 8)), (IntKind.u8.wrap x_2)] : List Int)) ++ ([(IntKind.u8.wrap (Aa .u32 x_3 24)), (IntKind.u8.wrap (Aa .u32 x_3 16)), (IntKind.u8.wrap (Aa .u32 x_3 8)), (IntKind.u8.wrap x_3)] : List Int)) ++ ([(IntKind.u8.wrap (Aa .u32 x_4 24)), (IntKind.u8.wrap (Aa .u32 x_4 16)), (IntKind.u8.wrap (Aa .u32 x_4 8)), (IntKind.u8.wrap x_4)] : List Int)) ++ ([(IntKind.u8.wrap (Aa .u32 x_5 24)), (IntKind.u8.wrap (Aa .u32 x_5 16)), (IntKind.u8.wrap (Aa .u32 x_5 8)), (IntKind.u8.wrap x_5)] : List Int)) ++ ([(IntKind.u8.wrap (Aa .u32 x_6 24)), (IntKind.u8.wrap (Aa .u32 x_6 16)), (IntKind.u8.wrap (Aa .u32 x_6 8)), (IntKind.u8.wrap x_6)] : List Int)) ++ ([(IntKind.u8.wrap (Aa .u32 x_7 24)), (IntKind.u8.wrap (Aa .u32 x_7 16)), (IntKind.u8.wrap (Aa .u32 x_7 8)), (IntKind.u8.wrap x_7)] : List Int)) ++ ([(IntKind.u8.wrap (Aa .u32 x_8 24)), (IntKind.u8.wrap (Aa .u32 x_8 16)), (IntKind.u8.wrap (Aa .u32 x_8 8)), (IntKind.u8.wrap x_8)] : List Int)).length = ((((((([(IntKind.u8.wrap (Aa .u32 x_1 24)), (IntKind.u8.wrap (Aa .u32 x_1 16)), (IntKind.u8.wrap (Aa .u32 x_1 8)), (IntKind.u8.wrap x_1)] : List Int) ++ ([(IntKind.u8.wrap (Aa .u32 x_2 24)), (IntKind.u8.wrap (Aa .u32 x_2 16)), (IntKind.u8.wrap (Aa .u32 x_2 8)), (IntKind.u8.wrap x_2)] : List Int)) ++ ([(IntKind.u8.wrap (Aa .u32 x_3 24)), (IntKind.u8.wrap (Aa .u32 x_3 16)), (IntKind.u8.wrap (Aa .u32 x_3 8)), (IntKind.u8.wrap x_3)] : List Int)) ++ ([(IntKind.u8.wrap (Aa .u32 x_4 24)), (IntKind.u8.wrap (Aa .u32 x_4 16)), (IntKind.u8.wrap (Aa .u32 x_4 8)), (IntKind.u8.wrap x_4)] : List Int)) ++ ([(IntKind.u8.wrap (Aa .u32 x_5 24)), (IntKind.u8.wrap (Aa .u32 x_5 16)), (IntKind.u8.wrap (Aa .u32 x_5 8)), (IntKind.u8.wrap x_5)] : List Int)) ++ ([(IntKind.u8.wrap (Aa .u32 x_6 24)), (IntKind.u8.wrap (Aa .u32 x_6 16)), (IntKind.u8.wrap (Aa .u32 x_6 8)), (IntKind.u8.wrap x_6)] : List Int)) ++ ([(IntKind.u8.wrap (Aa .u32 x_7 24)), (IntKind.u8.wrap (Aa .u32 x_7 16)), (IntKind.u8.wrap (Aa .u32 x_7 8)), (IntKind.u8.wrap x_7)] : List Int)).length + 4 := by first | rfl | exact List.length_append | simp
      refine Z0 ?_;refine Z34 ?_;refine zD ?_;refine Jo rfl ?_;refine Hw ?_;refine sF ?_;refine Z2 ?_;refine Z1 ?_;refine Am (tG underlying9 underlying38 underlying5 (e9.slj Ah)) (k := ?_);refine Vq ?_;refine cE [rD7] (qc (qa (qa (qa (qa (qa (qa (qa (qa (qa q0)))))))))) results201 Rm (fun w1 hw1 => ?_);exact ⟨(rq ((hF.rn9 (j6.neg a6)))), hw1.ext_out⟩
    refine O1 ?_;refine Vp ?_;refine zG ?_;refine Am (fZ (s := x_9) 64 runUnderlying9 z6) (k := ?_);have hsb5 : (x_9.take 64).length = 64 := by first | omega | (simp only [List.length_take, List.length_drop, List.length_cons, List.length_nil] <;> omega)
    refine tB (vs := [(Value.string (bs (x_9.take 64)))]) hl7 q0 sO ?_;refine El ?_;refine Z0 ?_;refine fP q0 ?_;refine Ie ?_;refine El ?_;refine Am (Bu isAgg401) (k := ?_);refine Za ?_;refine Lf (args := [_, _]) (Bc call252) func252 ntmps252 ?_;refine Vp ?_;refine Am (Mr) (k := ?_);refine Am (Ea Sa) (k := ?_);refine Am (Rt isAgg404 sizeOf404) (k := ?_);refine Dw Fx z22 (k := fun r8 w7 => ?_);refine Qe (Dm (l' := [_, _, _, _, _, _, _, _]) sizeOf404) (k := ?_);refine yM ?_;refine Am (Tt) (k := ?_);refine bN ?_;refine Vp ?_;refine Mv (Bc call308) (fun w1 hw1 => qC w1 (b := (x_9.take 64)) (hb := by first | exact lb | decide)) (k := ?_);have f8 := kN (b := (x_9.take 64));refine Z54 ?_;refine fN (σ1 := Nat) (σ2 := Nat) (σ3 := Int) (σ4 := Int) (σ5 := Int) (σ6 := Int) (σ7 := Int) (σ8 := Int) (σ9 := Int) (σ10 := Int) (fun n_22 x_13 x_14 x_15 x_16 x_17 x_18 x_19 x_20 x_21 => ((r8, Obj.cells [(Value.int .u32 (x_14)), (Value.int .u32 (x_15)), (Value.int .u32 (x_16)), (Value.int .u32 (x_17)), (Value.int .u32 (x_18)), (Value.int .u32 (x_19)), (Value.int .u32 (x_20)), (Value.int .u32 (x_21))].toArray 404) :: ((l7, Cu rr7 .busy none) :: ((rD7, Obj.deferred (some [])) :: ((r6, Obj.cells [(Value.string (bs x_9))].toArray 9) :: ((r5, Obj.cells [(Value.int .u32 (1779033703)), (Value.int .u32 (3144134277)), (Value.int .u32 (1013904242)), (Value.int .u32 (2773480762)), (Value.int .u32 (1359893119)), (Value.int .u32 (2600822924)), (Value.int .u32 (528734635)), (Value.int .u32 (1541459225))].toArray 404) :: ((r4, Obj.cells [(Value.int .u32 (1779033703)), (Value.int .u32 (3144134277)), (Value.int .u32 (1013904242)), (Value.int .u32 (2773480762)), (Value.int .u32 (1359893119)), (Value.int .u32 (2600822924)), (Value.int .u32 (528734635)), (Value.int .u32 (1541459225))].toArray 404) :: ((r3, Obj.cells [(Value.pointer (some ⟨r2, 0, none⟩))].toArray 401) :: ((r2, Obj.cells [(Value.int .u32 (x_1)), (Value.int .u32 (x_2)), (Value.int .u32 (x_3)), (Value.int .u32 (x_4)), (Value.int .u32 (x_5)), (Value.int .u32 (x_6)), (Value.int .u32 (x_7)), (Value.int .u32 (x_8))].toArray 407) :: ((r1, Obj.cells [(Value.int .u32 (1779033703)), (Value.int .u32 (3144134277)), (Value.int .u32 (1013904242)), (Value.int .u32 (2773480762)), (Value.int .u32 (1359893119)), (Value.int .u32 (2600822924)), (Value.int .u32 (528734635)), (Value.int .u32 (1541459225))].toArray 404) :: [])))))))))) (fun n_22 x_13 x_14 x_15 x_16 x_17 x_18 x_19 x_20 x_21 => [(0, (Value.pointer (some ⟨r2, 0, none⟩))), (4, (Value.pointer (some ⟨r8, 0, none⟩))), (5, (Value.func (.func 307) [(Value.pointer (some ⟨r8, 0, none⟩))].toArray [].toArray)), (14, (Value.agg (aI .u32 (Lq (x_9.take 64))).toArray)), (15, (Value.int .i64 (((x_13 : Nat) : Int))))]) (fun n_22 x_13 x_14 x_15 x_16 x_17 x_18 x_19 x_20 x_21 => 64 - x_13 < n_22 ∧ Is (Vy s x_1 x_2 x_3 x_4 x_5 x_6 x_7 x_8 x_9 (64 + 1) 0 x_1 x_2 x_3 x_4 x_5 x_6 x_7 x_8) (Vy s x_1 x_2 x_3 x_4 x_5 x_6 x_7 x_8 x_9 n_22 x_13 x_14 x_15 x_16 x_17 x_18 x_19 x_20 x_21) ∧ x_13 ≤ 64) (fun n_22 x_13 x_14 x_15 x_16 x_17 x_18 x_19 x_20 x_21 => n_22) (64 + 1) 0 x_1 x_2 x_3 x_4 x_5 x_6 x_7 x_8 ?_ se (List.Perm.refl _) ?_
    · exact ⟨Nat.lt_succ_self _, Is.refl _, K5⟩
    · rintro (_ | n_22) x_13 x_14 x_15 x_16 x_17 x_18 x_19 x_20 x_21 ⟨hm24, j7, hi25⟩
      · omega
      refine zD ?_;refine Kl rfl (fun c6 => ?_) (fun c6 => ?_)
      · refine Nf ?_;refine Z2 ?_;refine Ie ?_;refine Vp ?_;refine Am (zZ (m := x_13) runUnderlying472 sizeOf402 isAgg402 (hm := Qd) (hl := Qd)) (k := ?_);refine Am (Dt) (k := ?_);refine pO ?_;refine yK ?_;refine Am (Nt x_13 x_13 runUnderlying474 sizeOf330 (hm := Qd)) (k := ?_);obtain ⟨Thgl3, fhgl3, hgl3⟩ := hG.sha;refine Am (tE (xs := Ln) (m := x_13) isAgg330 (by (have := kM; omega)) hgl3) (k := ?_);refine Lf (args := [_, _, _]) (Bc call307) func307 ntmps307 ?_;refine Z5 ?_;refine Am (gF (cs := [_, _]) zeroValue551 Q3) (k := ?_);refine Dw Fx (Ig (l := [_, _]) zeroValue551) (k := fun r9 w8 => ?_);refine Qe (Dm (l' := [_, _]) sizeOf551) (k := ?_);refine zF ?_;refine Ka mixed 30 [(true, 0), (true, 1), (true, 2), (true, 3), (true, 4), (true, 5), (true, 6), (true, 7), (true, 8), (true, 9), (true, 10), (true, 11), (true, 12), (true, 13), (true, 14), (true, 15), (true, 16), (true, 17), (true, 18), (true, 19), (true, 20), (true, 21), (true, 22), (true, 23), (true, 24), (true, 25), (true, 26), (true, 27), (true, 28), (true, 29)] fH ?_;refine Z4 ?_;refine Av (Cv (m := 0) runUnderlying404 sizeOf402) (k := ?_);refine Z48 ?_;refine Av (Cv (m := 1) runUnderlying404 sizeOf402) (k := ?_);refine Z48 ?_;refine Av (Cv (m := 2) runUnderlying404 sizeOf402) (k := ?_);refine Z48 ?_;refine Z67 ?_;refine Z48 ?_;refine Av (Cv (m := 5) runUnderlying404 sizeOf402) (k := ?_);refine Z48 ?_;refine Av (Cv (m := 6) runUnderlying404 sizeOf402) (k := ?_);refine Av (Bu isAgg402) (k := ?_);refine Av (Dt) (k := ?_);refine Av (Dt) (k := ?_);refine Av (Dt) (k := ?_);refine Av (Dt) (k := ?_);refine Av (Dt) (k := ?_);refine Z46 ?_;refine zF ?_;refine Ka mixed 23 [(true, 0), (true, 1), (true, 2), (true, 3), (true, 4), (true, 5), (true, 6), (true, 9), (true, 10), (true, 11), (true, 12), (true, 13), (true, 14), (true, 15), (true, 16), (true, 18), (true, 20), (false, 7), (true, 8), (true, 17), (true, 19), (true, 21), (true, 22)] fH ?_;refine Z4 ?_;refine Av (Cv (m := 7) runUnderlying404 sizeOf402) (k := ?_);refine Av (Bu isAgg402) (k := ?_);refine Av (Cv (m := 0) runUnderlying551 sizeOf549) (k := ?_);refine Av (Bu isAgg549) (k := ?_);refine Z59 ?_;refine fJ ?_;refine Av (Tx) (k := ?_);refine fJ ?_;refine Av (P8) (k := ?_);refine fJ ?_;refine Av (Tx) (k := ?_);refine Av (Lh) (k := ?_);refine Z59 ?_;refine O5 (Bc call360) (fun w1 hw1 => qB w1 (w_ := x_18)) (k := ?_);refine Av (Kc) (k := ?_);refine Av (Kc) (k := ?_);refine Av (Kc) (k := ?_);refine Av (Kc) (k := ?_);refine Z46 ?_;refine yM ?_;refine Am (Cv (m := 1) runUnderlying551 sizeOf549) (k := ?_);refine Am (Bu isAgg549) (k := ?_);refine Za ?_;refine Mv (Bc call361) (fun w1 hw1 => qA w1 (w_ := x_14)) (k := ?_);refine Z41 ?_;refine Am (Tx) (k := ?_);refine Z41 ?_;refine Am (Tx) (k := ?_);refine Am (Lh) (k := ?_);refine Z41 ?_;refine Am (Tx) (k := ?_);refine Am (Lh) (k := ?_);refine Am (Kc) (k := ?_);refine bN ?_;refine bS _ _ (vp (qa q0) (nC nE)) mixed 7 [(true, 0), (true, 1), (true, 2), (true, 3), (true, 4), (true, 5), (false, 6)] fH ?_;refine Z4 ?_;refine Av (kI 1 1 7 runUnderlying404 sizeOf402 (by decide) rfl rfl rfl) (k := ?_);refine Z4 ?_;refine Av (kJ 7 runUnderlying404 sizeOf402 (by decide) (by decide) rfl) (k := ?_);refine tH (l' := [_, _, _, _, _, _, _, _]) (us := [_, _, _, _, _, _, _]) runUnderlying476 sizeOf402 q0 me (k := ?_);refine bT ?_;refine Xa (nC nE) ?_;refine zF ?_;refine Ka mixed 8 [(true, 0), (true, 1), (true, 2), (true, 3), (true, 4), (true, 5), (true, 6), (true, 7)] fH ?_;refine Z4 ?_;refine Z67 ?_;refine yY ?_;refine yZ ?_;refine Z67 ?_;refine yW ?_;refine Z8 ?_;refine yK ?_;refine Am (Kc) (k := ?_);refine Am (Mr) (k := ?_);refine Am (Cv (m := 0) runUnderlying404 sizeOf402) (k := ?_);refine Qe (Dm (l' := [_, _, _, _, _, _, _, _]) sizeOf402) (k := ?_);refine Ct ?_;refine Vw results307 Mt.nil ?_;refine Ct ?_;refine O2 ?_;refine Km _ (((((((((qa (qa (qa (qa (qa (qa (qa (qa (qa q0))))))))).trans (qa (qa (qa (qa (qa (qa (qa (qa (qa q0)))))))))).trans (qa (qa (qa (qa (qa (qa (qa (qa (qa q0)))))))))).trans (qa (qa (qa (qa (qa (qa (qa (qa (qa q0)))))))))).trans (qa (qa (qa (qa (qa (qa (qa (qa (qa q0)))))))))).trans (qa (qa (qa (qa (qa (qa (qa (qa (qa q0)))))))))).trans (qa (qa (qa (qa (qa (qa (qa (qa (qa q0)))))))))).trans (qa (qa (qa (qa (qa (qa (qa (qa (qa q0)))))))))).trans (qa (qa (qa (qa (qa (qa (qa (qa q0))))))))) ?_;refine Rn _ (List.Sublist.cons_cons _ z17) ?_;exact fO n_22 (x_13 + 1) (IntKind.u32.wrap ((IntKind.u32.wrap ((IntKind.u32.wrap ((IntKind.u32.wrap ((IntKind.u32.wrap (x_21 + (Ub x_18))) + (Jl .u32 (Lg .u32 x_18 x_19) (Lg .u32 (Jl .u32 (IntKind.max .u32) x_18) x_20)))) + (Ln.getD x_13 default))) + ((Lq (x_9.take 64)).getD x_13 default))) + (IntKind.u32.wrap ((cM x_14) + (Jl .u32 (Jl .u32 (Lg .u32 x_14 x_15) (Lg .u32 x_14 x_16)) (Lg .u32 x_15 x_16)))))) x_14 x_15 x_16 (IntKind.u32.wrap (x_17 + (IntKind.u32.wrap ((IntKind.u32.wrap ((IntKind.u32.wrap ((IntKind.u32.wrap (x_21 + (Ub x_18))) + (Jl .u32 (Lg .u32 x_18 x_19) (Lg .u32 (Jl .u32 (IntKind.max .u32) x_18) x_20)))) + (Ln.getD x_13 default))) + ((Lq (x_9.take 64)).getD x_13 default))))) x_18 x_19 x_20 ⟨by omega, (j7.pos c6), z6⟩ (Nat.lt_succ_self _) se (List.Perm.refl _)
      refine Hw ?_;refine sF ?_;refine Jz ?_;refine bS _ _ (vp (qa (qa (qa (qa (qa (qa (qa q0))))))) (nC nE)) mixed 5 [(true, 0), (true, 1), (true, 2), (true, 3), (false, 4)] fH ?_;refine Z4 ?_;refine Av (Ea Sa) (k := ?_);refine Av (gE runUnderlying404 sizeOf402 (by decide)) (k := ?_);refine cI (args := [_, _]) (Bc call309) func309 ntmps309 ?_;refine Vp ?_;refine Am (Ts runUnderlying476) (k := ?_);refine Z54 ?_;refine Xd ?_;refine Z42 ?_;refine Vp ?_;refine Am (Nq runUnderlying476 sizeOf402 0) (k := ?_);refine K8 ?_;refine pO ?_;refine Z6 ?_;refine Z4 ?_;refine Av (Cv (m := 0) runUnderlying404 sizeOf402) (k := ?_);refine yY ?_;refine yZ ?_;refine Av (Cv (m := 0) runUnderlying404 sizeOf402) (k := ?_);refine yW ?_;refine Ct ?_;refine mL ?_;refine Vp ?_;refine Am (Nq runUnderlying476 sizeOf402 1) (k := ?_);refine K8 ?_;refine pO ?_;refine Z6 ?_;refine Z4 ?_;refine Av (Cv (m := 1) runUnderlying404 sizeOf402) (k := ?_);refine yY ?_;refine yZ ?_;refine Av (Cv (m := 1) runUnderlying404 sizeOf402) (k := ?_);refine yW ?_;refine Ct ?_;refine mL ?_;refine Vp ?_;refine Am (Nq runUnderlying476 sizeOf402 2) (k := ?_);refine K8 ?_;refine pO ?_;refine Z6 ?_;refine Z4 ?_;refine Av (Cv (m := 2) runUnderlying404 sizeOf402) (k := ?_);refine yY ?_;refine yZ ?_;refine Av (Cv (m := 2) runUnderlying404 sizeOf402) (k := ?_);refine yW ?_;refine Ct ?_;refine mL ?_;refine Vp ?_;refine Am (Nq runUnderlying476 sizeOf402 3) (k := ?_);refine K8 ?_;refine pO ?_;refine Z6 ?_;refine Z4 ?_;refine Av (Cv (m := 3) runUnderlying404 sizeOf402) (k := ?_);refine yY ?_;refine yZ ?_;refine Av (Cv (m := 3) runUnderlying404 sizeOf402) (k := ?_);refine yW ?_;refine Ct ?_;refine mL ?_;refine Vp ?_;refine Am (Nq runUnderlying476 sizeOf402 4) (k := ?_);refine K8 ?_;refine pO ?_;refine Z6 ?_;refine Z4 ?_;refine Z67 ?_;refine yY ?_;refine yZ ?_;refine Z67 ?_;refine yW ?_;refine Ct ?_;refine mL ?_;refine Vp ?_;refine Am (Nq runUnderlying476 sizeOf402 5) (k := ?_);refine K8 ?_;refine pO ?_;refine Z6 ?_;refine Z4 ?_;refine Av (Cv (m := 5) runUnderlying404 sizeOf402) (k := ?_);refine yY ?_;refine yZ ?_;refine Av (Cv (m := 5) runUnderlying404 sizeOf402) (k := ?_);refine yW ?_;refine Ct ?_;refine mL ?_;refine Vp ?_;refine Am (Nq runUnderlying476 sizeOf402 6) (k := ?_);refine K8 ?_;refine pO ?_;refine Z6 ?_;refine Z4 ?_;refine Av (Cv (m := 6) runUnderlying404 sizeOf402) (k := ?_);refine yY ?_;refine yZ ?_;refine Av (Cv (m := 6) runUnderlying404 sizeOf402) (k := ?_);refine yW ?_;refine Ct ?_;refine mL ?_;refine Vp ?_;refine Am (Nq runUnderlying476 sizeOf402 7) (k := ?_);refine K8 ?_;refine pO ?_;refine Z6 ?_;refine Z4 ?_;refine Av (Cv (m := 7) runUnderlying404 sizeOf402) (k := ?_);refine yY ?_;refine yZ ?_;refine Av (Cv (m := 7) runUnderlying404 sizeOf402) (k := ?_);refine yW ?_;refine Ct ?_;refine Z34 ?_;refine zD ?_;refine Jo rfl ?_;refine Hw ?_;refine sF ?_;refine fW _ _ results309 Mt.nil (vp (List.Perm.refl _) (nC nE)) (List.Sublist.refl _) ?_;refine bT ?_;refine Xa (nC nE) ?_;refine Ct ?_;refine Vw results252 Mt.nil ?_;refine Ct ?_;refine Kn ?_;refine Zz (qa (qa q0)) ?_;refine Am (L7) (k := ?_);refine Z8 ?_;refine Jo rfl ?_;refine Nf ?_;refine Z26 ?_;refine zG ?_;refine Am (sX (s := x_9) 64 runUnderlying9 z6) (k := ?_);have hsb6 : (x_9.drop 64).length = x_9.length - 64 := by first | omega | (simp only [List.length_take, List.length_drop, List.length_cons, List.length_nil] <;> omega)
      refine Qe (Dm (l' := [_]) sizeOf9) (k := ?_);refine Ct ?_;refine Km _ ((((((((qa (qa (qa (qa (qa (qa (qa (qa q0)))))))).trans (qa (qa q0))).trans (qa (qa (qa (qa (qa (qa (qa (qa q0))))))))).trans (qa (qa (qa (qa (qa (qa (qa (qa q0))))))))).trans (qa (qa (qa (qa (qa (qa (qa (qa q0))))))))).trans (qa (qa (qa (qa (qa (qa (qa (qa q0))))))))).trans (qa (qa (qa (qa (qa (qa (qa (qa q0))))))))).trans (qa (qa (qa (qa (qa (qa (qa q0)))))))) ?_;refine Rn _ z17 ?_;exact fO n_10 (IntKind.u32.wrap (x_1 + x_14)) (IntKind.u32.wrap (x_2 + x_15)) (IntKind.u32.wrap (x_3 + x_16)) (IntKind.u32.wrap (x_4 + x_17)) (IntKind.u32.wrap (x_5 + x_18)) (IntKind.u32.wrap (x_6 + x_19)) (IntKind.u32.wrap (x_7 + x_20)) (IntKind.u32.wrap (x_8 + x_21)) (x_9.drop 64) ⟨by omega, ((j6.pos a6).rn9 (j7.neg c6))⟩ (Nat.lt_succ_self _) se (List.Perm.refl _)

end Go.Proofs.YtbooaoddioibeaaGreatDoor.Jd

namespace Go.Proofs.YtbooaoddioibeaaGreatDoor.Jd
open Go.Proofs.Tryz
open Go.Proofs
open Go.RowKit (Below)
set_option maxRecDepth 100000
set_option maxHeartbeats 8000000
set_option linter.unusedVariables false
set_option linter.unusedSimpArgs false
def fLen (xs : List Int) (cap : Nat) (frm : Nat) (n : Nat) : Int := ((n : Nat) : Int)
def fRoom (xs : List Int) (cap : Nat) (frm : Nat) (n : Nat) : Int := (((cap : Nat) : Int) - ((n : Nat) : Int))
def Lr (s : Ep) (l : List Int) : Nat → Ep → Nat → Ep × Nat
  | 0, Tq, x_2 => (Tq, x_2)
  | n_3 + 1, Tq, x_2 => (if ((x_2 : Nat) : Int) < ((l.length : Nat) : Int) then (Lr s l n_3 (Tq.take (((if (if (l.getD x_2 default) < 0 then 0 else (l.getD x_2 default)) < ((Tq.length : Nat) : Int) then (if (l.getD x_2 default) < 0 then 0 else (l.getD x_2 default)) else ((Tq.length : Nat) : Int))).toNat)) (x_2 + 1)) else (Tq, x_2))
def Mw (s : Ep) (l : List Int) : Ep := (cH (Lr s l (l.length + 1) s 0) (fun Tq x_2 => Tq))
def Kp (xs : List Int) (cap : Nat) (frm : Nat) (n : Nat) (x : Ep) : Nat → Nat → List Int → Nat → Nat × (List Int) × Nat
  | 0, x_1, x_2, x_3 => (x_1, x_2, x_3)
  | n_4 + 1, x_1, x_2, x_3 => (if ((x_1 : Nat) : Int) < ((((Mw x ([(fRoom xs cap frm n)] : List Int)).length) : Nat) : Int) then (Kp xs cap frm n x n_4 (x_1 + 1) (x_2.set ((frm + x_3) % cap) ((((Mw x ([(fRoom xs cap frm n)] : List Int)).getD x_1 default).toNat : Nat) : Int)) (x_3 + 1)) else (x_1, x_2, x_3))
def fPush (xs : List Int) (cap : Nat) (frm : Nat) (n : Nat) (x : Ep) : Int × Nat × Int × (List Int) := (P1 (Kp xs cap frm n x (((Mw x ([(fRoom xs cap frm n)] : List Int)).length) + 1) 0 xs n) (fun x_1 x_2 x_3 => (((((Mw x ([(fRoom xs cap frm n)] : List Int)).length) : Nat) : Int), frm, ((x_3 : Nat) : Int), x_2)))
def Ga (xs : List Int) (cap : Nat) (frm : Nat) (n : Nat) (m : Nat) : Nat → Nat → List Int → Nat × (List Int)
  | 0, x_1, x_2 => (x_1, x_2)
  | n_3 + 1, x_1, x_2 => (if ((x_1 : Nat) : Int) < (if ((n : Nat) : Int) < ((m : Nat) : Int) then ((n : Nat) : Int) else ((m : Nat) : Int)) then (Ga xs cap frm n m n_3 (x_1 + 1) (x_2 ++ ([(xs.getD ((frm + x_1) % cap) default)] : List Int))) else (x_1, x_2))
def fPeek (xs : List Int) (cap : Nat) (frm : Nat) (n : Nat) (m : Nat) : Ep := (if ((n : Nat) : Int) = 0 then ([] : Ep) else (cH (Ga xs cap frm n m (((if ((n : Nat) : Int) < ((m : Nat) : Int) then ((n : Nat) : Int) else ((m : Nat) : Int)) - ((0 : Nat) : Int)).toNat + 1) 0 []) (fun x_1 x_2 => (gH (x_2.take x_2.length)))))
def fAt (xs : List Int) (cap : Nat) (frm : Nat) (n : Nat) (i : Nat) : Int := ((((frm : Nat) : Int) + ((i : Nat) : Int)) % ((cap : Nat) : Int))
def fPop (xs : List Int) (cap : Nat) (frm : Nat) (n : Nat) (m : Nat) : Ep × Nat × Int × (List Int) := (if (fPeek xs cap frm n m) ≠ ([] : Ep) then ((fPeek xs cap frm n m), ((frm + ((fPeek xs cap frm n m).length)) % cap), (((n : Nat) : Int) - ((((fPeek xs cap frm n m).length) : Nat) : Int)), xs) else ((fPeek xs cap frm n m), frm, ((n : Nat) : Int), xs))
def fClear (xs : List Int) (cap : Nat) (frm : Nat) (n : Nat) : Int × Nat × Int × (List Int) := (if (fPeek xs cap frm n n) ≠ ([] : Ep) then (((((fPeek xs cap frm n n).length) : Nat) : Int), ((frm + ((fPeek xs cap frm n n).length)) % cap), (((n : Nat) : Int) - ((((fPeek xs cap frm n n).length) : Nat) : Int)), xs) else (((((fPeek xs cap frm n n).length) : Nat) : Int), frm, ((n : Nat) : Int), xs))
end Go.Proofs.YtbooaoddioibeaaGreatDoor.Jd

namespace Go.Proofs.YtbooaoddioibeaaGreatDoor.Jd
open Go.Proofs.Tryz
open Go.Proofs
set_option linter.unusedVariables false
set_option linter.unusedSimpArgs false
def Ff (cap n : Nat) (x : Ep) : Ep := x.take (cap - n)
theorem cN (xs : List Int) (cap frm n : Nat) (x : Ep) (hn : n ≤ cap) : Mw x ([(fRoom xs cap frm n)] : List Int) = Ff cap n x := by
  have e : ([(fRoom xs cap frm n)] : List Int).getD 0 default = ((cap - n : Nat) : Int) := by
    simp only [List.getD_cons_zero, fRoom]; omega
  have e2 : (if ((cap - n : Nat) : Int) < 0 then 0 else ((cap - n : Nat) : Int)) = ((cap - n : Nat) : Int) := if_neg z6;show (Lr x [fRoom xs cap frm n] 2 x 0).1 = _
  rw [Lr, if_pos Jy, e, e2, Lr, if_neg Jy];unfold Ff;simp only;split
  · rfl
  · rw [List.take_of_length_le z6, List.take_of_length_le z6]
theorem tP (xs : List Int) (cap frm n : Nat) (x : Ep) (hn : n ≤ cap) : (Mw x ([(fRoom xs cap frm n)] : List Int)).length ≤ cap - n ∧ (Mw x ([(fRoom xs cap frm n)] : List Int)).length ≤ x.length := by
  rw [cN xs cap frm n x hn, Ff, List.length_take]; omega
theorem Sc (xs : List Int) (cap frm n m : Nat) : ∀ (f x1 : Nat) (acc : List Int), acc.length = x1 → x1 ≤ n → (Ga xs cap frm n m f x1 acc).2.length ≤ n
  | 0, x1, acc, h, h1 => by simp only [Ga]; omega
  | f + 1, x1, acc, h, h1 => by
    rw [Ga];by_cases hc : ((x1 : Nat) : Int) < (if ((n : Nat) : Int) < ((m : Nat) : Int) then ((n : Nat) : Int) else ((m : Nat) : Int))
    · rw [if_pos hc];refine Sc xs cap frm n m f (x1 + 1) _ (by simp [h]) ?_;split at hc <;> omega
    · rw [if_neg hc]; simp only; omega
theorem aB (xs : List Int) (cap frm n m : Nat) : (fPeek xs cap frm n m).length ≤ n := by
  unfold fPeek;split
  · simp
  · have := Sc xs cap frm n m (((if ((n : Nat) : Int) < ((m : Nat) : Int) then ((n : Nat) : Int) else ((m : Nat) : Int)) - ((0 : Nat) : Int)).toNat + 1) 0 [] rfl (Nat.zero_le _);simp only [cH, Lj, List.take_length];exact this
end Go.Proofs.YtbooaoddioibeaaGreatDoor.Jd

namespace Go.Proofs.YtbooaoddioibeaaGreatDoor.Jd
open Go.Proofs.Tryz
open Go.Proofs
open Go.RowKit (Below)
set_option maxRecDepth 100000
set_option maxHeartbeats 8000000
set_option linter.unusedVariables false
set_option linter.unusedSimpArgs false
section
variable {P : Program} {rd : Option Nat} {b0 : World} {Mk : List Nat} {N : Nat} {D : List Deferred} {ops : Array Oper} {L V : Ad} {C : List (Addr × Value)} {E : Dq} {T : Act → World → Prop}
variable {op : Op} {ty : TypeId} {pos : String} {after : Array Edge} {v : Value} {d : Nat}
theorem M4 {l : List (Bool × Oper)} {f : FuncId} {args : List Value} (hc : bU P N D b0 Mk L E op ty f args) (h : ∀ w, SH b0 Mk (V ++ L) w → Zc P f args w v) (hn : Bf op = true := by rfl) (hd : Nat.blt d N = true := by rfl)
    (k : JK P rd b0 Mk N D ops L V C ((d, v) :: E) l T) : JK P rd b0 Mk N D ops L V C E ((false, { dst := some d, op := op, type := ty, pos := pos, after := after, guard := none }) :: l) T := by
  intro a w ha hw hk;unfold Zb;rw [if_pos (by rfl)];refine Gs (Bm hn) (by rw [Bi]; exact hc a w ha hw.right) ((h w hw).mono fun e w' ⟨he, hx⟩ => ?_);subst he;exact ⟨_, rfl, SK b0 Mk L C, fun y hy => hy, ⟨(hw.ext hx).right, hk.ext hx⟩, k _ _ (ha.put hd _) (hw.ext hx) (hk.ext hx)⟩
end
theorem tQ : Ko Tryz.prog 146 0 0 := fun r k w => by simp [Instr.fieldAt, Instr.sureAddr, fieldPlace, Ay]
theorem Nv : Ko Tryz.prog 146 1 1 := fun r k w => by simp [Instr.fieldAt, Instr.sureAddr, fieldPlace, Ay]
theorem Hh : Ko Tryz.prog 146 2 2 := fun r k w => by simp [Instr.fieldAt, Instr.sureAddr, fieldPlace, Ay]
theorem Iw : Ko Tryz.prog 148 0 0 := fun r k w => by simp [Instr.fieldAt, Instr.sureAddr, fieldPlace, Ay]
theorem Q4 : bW Tryz.prog 146 [(0, 1), (1, 1), (2, 1)] := ⟨_, fun w => runUnderlying146 w, fun w => by simp⟩
theorem Q5 : bW Tryz.prog 148 [(0, 3)] := ⟨_, fun w => runUnderlying148 w, fun w => by simp⟩
theorem nK (w : World) {a : Nat} {xa : Option Addr} {xc : Nat} {B : Ad} {xs : List Int} {cap : Nat} {frm : Nat} {n : Nat} (ho : Bg Er 1 5 xa xc B xs) (hl : xs.length = cap) (hf : frm < cap) (hn : n ≤ cap) (h4 : cap ≤ 4096) (hb : ∀ p ∈ ((a, Obj.cells [(Value.slice (xa) (cap) (xc)), (Value.int .i64 (((frm : Nat) : Int))), (Value.int .i64 (((n : Nat) : Int)))].toArray 148) :: B), w.heap[p.1]? = some p.2) (hnd : (keys ((a, Obj.cells [(Value.slice (xa) (cap) (xc)), (Value.int .i64 (((frm : Nat) : Int))), (Value.int .i64 (((n : Nat) : Int)))].toArray 148) :: B)).Nodup) : Zc Tryz.prog 100 [(Value.pointer (some ⟨a, 0, none⟩))] w (Value.int .i64 ((fLen xs cap frm n))) := by
  have hF := Is.refl (fLen xs cap frm n);have c5 := ho.le';have hMk : ∀ k ∈ keys ((a, Obj.cells [(Value.slice (xa) (cap) (xc)), (Value.int .i64 (((frm : Nat) : Int))), (Value.int .i64 (((n : Nat) : Int)))].toArray 148) :: B), k < w.heap.size := fun k hk => by
    obtain ⟨o, ho⟩ := Cb hk;exact (Array.getElem?_eq_some_iff.1 (hb _ ho)).1
  refine Tu (keys ((a, Obj.cells [(Value.slice (xa) (cap) (xc)), (Value.int .i64 (((frm : Nat) : Int))), (Value.int .i64 (((n : Nat) : Int)))].toArray 148) :: B)) ((a, Obj.cells [(Value.slice (xa) (cap) (xc)), (Value.int .i64 (((frm : Nat) : Int))), (Value.int .i64 (((n : Nat) : Int)))].toArray 148) :: (B ++ [])) (by simpa using hb) (fun p hp => Dn (by simpa using hp)) O0 func100 ntmps100 (h := ?_);refine fE ?_;refine Z61 ?_;refine Z8 ?_;refine Jo rfl ?_;refine Z16 ?_;refine Z1 ?_;refine Z51 ?_;refine Am (Ea Hh) (k := ?_);refine Am (Bu isAgg3) (k := ?_);refine Vq ?_;refine Df results100 Rm (fun w1 hw1 => ?_);refine ⟨?_, ((hw1.perm (List.Perm.refl _)).tr_out.sub z7).ext hb⟩;rfl

theorem gK (w : World) {a : Nat} {xa : Option Addr} {xc : Nat} {B : Ad} {xs : List Int} {cap : Nat} {frm : Nat} {n : Nat} (ho : Bg Er 1 5 xa xc B xs) (hl : xs.length = cap) (hf : frm < cap) (hn : n ≤ cap) (h4 : cap ≤ 4096) (hb : ∀ p ∈ ((a, Obj.cells [(Value.slice (xa) (cap) (xc)), (Value.int .i64 (((frm : Nat) : Int))), (Value.int .i64 (((n : Nat) : Int)))].toArray 148) :: B), w.heap[p.1]? = some p.2) (hnd : (keys ((a, Obj.cells [(Value.slice (xa) (cap) (xc)), (Value.int .i64 (((frm : Nat) : Int))), (Value.int .i64 (((n : Nat) : Int)))].toArray 148) :: B)).Nodup) : Zc Tryz.prog 51 [(Value.pointer (some ⟨a, 0, none⟩))] w (Value.int .i64 ((fRoom xs cap frm n))) := by
  have hF := Is.refl (fRoom xs cap frm n);have c5 := ho.le';have hMk : ∀ k ∈ keys ((a, Obj.cells [(Value.slice (xa) (cap) (xc)), (Value.int .i64 (((frm : Nat) : Int))), (Value.int .i64 (((n : Nat) : Int)))].toArray 148) :: B), k < w.heap.size := fun k hk => by
    obtain ⟨o, ho⟩ := Cb hk;exact (Array.getElem?_eq_some_iff.1 (hb _ ho)).1
  refine Tu (keys ((a, Obj.cells [(Value.slice (xa) (cap) (xc)), (Value.int .i64 (((frm : Nat) : Int))), (Value.int .i64 (((n : Nat) : Int)))].toArray 148) :: B)) ((a, Obj.cells [(Value.slice (xa) (cap) (xc)), (Value.int .i64 (((frm : Nat) : Int))), (Value.int .i64 (((n : Nat) : Int)))].toArray 148) :: (B ++ [])) (by simpa using hb) (fun p hp => Dn (by simpa using hp)) O0 func51 ntmps51 (h := ?_);refine fE ?_;refine Z61 ?_;refine Z8 ?_;refine Jo rfl ?_;refine Z16 ?_;refine Z19 ?_;refine Av (Ea Iw) (k := ?_);refine Z56 ?_;refine Z4 ?_;refine Av (Ea Iw) (k := ?_);refine Av (Ea Hh) (k := ?_);refine Av (Bu isAgg3) (k := ?_);refine Av (Vd) (k := ?_);refine Z46 ?_;refine Z8 ?_;refine Vb ?_;refine Df results51 Rm (fun w1 hw1 => ?_);refine ⟨?_, ((hw1.perm (List.Perm.refl _)).tr_out.sub z7).ext hb⟩;rfl

theorem B6 (w : World) {l_a : Option Addr} {l_c : Nat} {s : Ep} {l : List Int} (n_s : s.length ≤ 1000000) (h_l : Sl w eI 1 l_a l) (n_l : l.length ≤ 1000000) : Zc Tryz.prog 99 [(Value.string (bs s)), (Value.slice (l_a) (l.length) (l_c))] w (Value.string (bs (Mw s l))) := by
  have hF := Is.refl (Mw s l);refine enter func99 ntmps99 (h := ?_);refine fE ?_;refine Vp ?_;refine Am (Ts runUnderlying66) (k := ?_);refine Z54 ?_;refine bZ (σ1 := Nat) (σ2 := Ep) (σ3 := Nat) (fun n_3 Tq x_2 => []) (fun n_3 Tq x_2 => [(0, (Value.string (bs Tq))), (4, (Value.string (bs ([] : Ep)))), (7, (Value.slice (l_a) (l.length) (l_c))), (8, (Value.int .i64 (((l.length : Nat) : Int)))), (9, (Value.int .i64 (((x_2 : Nat) : Int))))]) (fun n_3 Tq x_2 => l.length - x_2 < n_3 ∧ Is (Lr s l (l.length + 1) s 0) (Lr s l n_3 Tq x_2) ∧ x_2 ≤ l.length) (fun n_3 Tq x_2 => n_3) (l.length + 1) s 0 ?_ se (List.Perm.refl _) ?_
  · exact ⟨Nat.lt_succ_self _, Is.refl _, K5⟩
  · rintro (_ | n_3) Tq x_2 ⟨hm5, d6, hi6⟩
    · omega
    refine zD ?_;refine Kl rfl (fun a6 => ?_) (fun a6 => ?_);rotate_left
    · refine Hw ?_;refine sF ?_;refine Z2 ?_;refine Z1 ?_;refine Vq ?_;refine Df results99 Rm (fun w1 hw1 => ?_);exact ⟨(rq ((hF.rn2 (d6.neg a6)))), hw1.ext_out⟩
    refine O1 ?_;refine Z5 ?_;refine Am (mQ (n := l.length) runUnderlying66 sizeOf3 x_2 (Jk.of_base h_l) (gD Qd) (by first | rfl | omega | simp)) (k := ?_);refine Am (bV isAgg3 x_2 0 (Jk.of_base h_l) (gD Qd)) (k := ?_);refine yN ?_;refine O3 ?_;refine Za ?_;refine Am (AE1) (k := ?_);refine Am (M0) (k := ?_);refine Am (fZ (s := Tq) (((if (if (l.getD x_2 default) < 0 then 0 else (l.getD x_2 default)) < ((Tq.length : Nat) : Int) then (if (l.getD x_2 default) < 0 then 0 else (l.getD x_2 default)) else ((Tq.length : Nat) : Int))).toNat) runUnderlying9 z6) (k := ?_);have hsb2 : (Tq.take (((if (if (l.getD x_2 default) < 0 then 0 else (l.getD x_2 default)) < ((Tq.length : Nat) : Int) then (if (l.getD x_2 default) < 0 then 0 else (l.getD x_2 default)) else ((Tq.length : Nat) : Int))).toNat)).length = (((if (if (l.getD x_2 default) < 0 then 0 else (l.getD x_2 default)) < ((Tq.length : Nat) : Int) then (if (l.getD x_2 default) < 0 then 0 else (l.getD x_2 default)) else ((Tq.length : Nat) : Int))).toNat) := by first | omega | (simp only [List.length_take, List.length_drop, List.length_cons, List.length_nil] <;> omega)
    refine Z0 ?_;refine O2 ?_;exact Vu n_3 (Tq.take (((if (if (l.getD x_2 default) < 0 then 0 else (l.getD x_2 default)) < ((Tq.length : Nat) : Int) then (if (l.getD x_2 default) < 0 then 0 else (l.getD x_2 default)) else ((Tq.length : Nat) : Int))).toNat)) (x_2 + 1) ⟨by omega, (d6.pos a6), z6⟩ (Nat.lt_succ_self _) se (List.Perm.refl _)

theorem tR (w : World) {a : Nat} {xa : Option Addr} {xc : Nat} {B : Ad} {xs : List Int} {cap : Nat} {frm : Nat} {n : Nat} {x : Ep} (ho : Bg Er 1 5 xa xc B xs) (hl : xs.length = cap) (hf : frm < cap) (hn : n ≤ cap) (h4 : cap ≤ 4096) (hb : ∀ p ∈ ((a, Obj.cells [(Value.slice (xa) (cap) (xc)), (Value.int .i64 (((frm : Nat) : Int))), (Value.int .i64 (((n : Nat) : Int)))].toArray 148) :: B), w.heap[p.1]? = some p.2) (hnd : (keys ((a, Obj.cells [(Value.slice (xa) (cap) (xc)), (Value.int .i64 (((frm : Nat) : Int))), (Value.int .i64 (((n : Nat) : Int)))].toArray 148) :: B)).Nodup) (hx : x.length ≤ 1000000) : Calls Tryz.prog 47 (List.toArray [(Value.pointer (some ⟨a, 0, none⟩)), (Value.string (bs x))]) w fun e w2 => e = .returned (Value.int .i64 (((fPush xs cap frm n x).1))) ∧ ∃ B1 : Ad, Tr w w2 ((a, Obj.cells [(Value.slice (xa) (cap) (xc)), (Value.int .i64 (((frm : Nat) : Int))), (Value.int .i64 (((n : Nat) : Int)))].toArray 148) :: B) ((a, Obj.cells [(Value.slice (xa) (cap) (xc)), (Value.int .i64 (((((fPush xs cap frm n x).2.1) : Nat) : Int))), (Value.int .i64 ((fPush xs cap frm n x).2.2.1))].toArray 148) :: B1) ∧ Bg Er 1 5 xa xc B1 (fPush xs cap frm n x).2.2.2 := by
  have hF := Is.refl (fPush xs cap frm n x);have c5 := ho.le';have hMk : ∀ k ∈ keys ((a, Obj.cells [(Value.slice (xa) (cap) (xc)), (Value.int .i64 (((frm : Nat) : Int))), (Value.int .i64 (((n : Nat) : Int)))].toArray 148) :: B), k < w.heap.size := fun k hk => by
    obtain ⟨o, ho⟩ := Cb hk;exact (Array.getElem?_eq_some_iff.1 (hb _ ho)).1
  refine Tu (keys ((a, Obj.cells [(Value.slice (xa) (cap) (xc)), (Value.int .i64 (((frm : Nat) : Int))), (Value.int .i64 (((n : Nat) : Int)))].toArray 148) :: B)) ((a, Obj.cells [(Value.slice (xa) (cap) (xc)), (Value.int .i64 (((frm : Nat) : Int))), (Value.int .i64 (((n : Nat) : Int)))].toArray 148) :: (B ++ [])) (by simpa using hb) (fun p hp => Dn (by simpa using hp)) O0 func47 ntmps47 (h := ?_);refine fE ?_;refine El ?_;refine bN ?_;refine Z9 ?_;refine Mv (Bc call51) (fun w1 hw1 => gK w1 (xs := xs) (cap := cap) (frm := frm) (n := n) ho hl hf hn h4 (fun p hp => by rcases List.mem_cons.1 hp with rfl | hp <;> exact hw1.own _ z8) hnd ) (k := ?_);refine Dw hMk (Wx (l := [_]) runUnderlying66 sizeOf3 zeroValue3) (k := fun r1 b6 => ?_);refine Mv (Bc call99) (fun w1 hw1 => B6 w1 (s := x) (l := ([(fRoom xs cap frm n)] : List Int)) (n_s := z6) (h_l := (Jk.lit (xs := ([(fRoom xs cap frm n)] : List Int)) AE3) w1 hw1) (n_l := by first | exact lb | decide)) (k := ?_);have i7 := tP xs cap frm n x hn;refine bN ?_;refine Vp ?_;refine O3 ?_;refine Z54 ?_;refine mR (σ1 := Nat) (σ2 := Nat) (σ3 := List Int) (σ4 := Ad) (σ5 := Nat) (fun n_4 x_1 x_2 a7 x_3 => ((r1, Obj.cells [(Value.int .i64 ((fRoom xs cap frm n)))].toArray 3) :: ((a, Obj.cells [(Value.slice (xa) (cap) (xc)), (Value.int .i64 (((frm : Nat) : Int))), (Value.int .i64 (((x_3 : Nat) : Int)))].toArray 148) :: (a7 ++ [])))) (fun n_4 x_1 x_2 a7 x_3 => [(0, (Value.pointer (some ⟨a, 0, none⟩))), (1, (Value.string (bs (Mw x ([(fRoom xs cap frm n)] : List Int))))), (4, (Value.int .i64 (0))), (5, (Value.func (.func 98) [].toArray [].toArray)), (13, (Value.int .i64 (((((Mw x ([(fRoom xs cap frm n)] : List Int)).length) : Nat) : Int)))), (14, (Value.int .i64 (((x_1 : Nat) : Int))))]) (fun n_4 x_1 x_2 a7 x_3 => ((Mw x ([(fRoom xs cap frm n)] : List Int)).length) - x_1 < n_4 ∧ Is (Kp xs cap frm n x (((Mw x ([(fRoom xs cap frm n)] : List Int)).length) + 1) 0 xs n) (Kp xs cap frm n x n_4 x_1 x_2 x_3) ∧ Bg Er 1 5 xa xc a7 x_2 ∧ x_2.length = cap ∧ x_3 = n + x_1) (fun n_4 x_1 x_2 a7 x_3 => n_4) (((Mw x ([(fRoom xs cap frm n)] : List Int)).length) + 1) 0 xs B n ?_ se (List.Perm.refl _) ?_
  · exact ⟨Nat.lt_succ_self _, Is.refl _, ho, K5, K5⟩
  · rintro (_ | n_4) x_1 x_2 a7 x_3 ⟨hm6, o3, b7, hi7, hi8⟩
    · omega
    have hmd : (frm + x_3) % cap < cap := Nat.mod_lt _ z6;refine zD ?_;refine Kl rfl (fun a6 => ?_) (fun a6 => ?_);rotate_left
    · refine Hw ?_;refine sF ?_;refine Z2 ?_;refine Z1 ?_;refine O3 ?_;refine Vq ?_;refine Df results47 Rm (fun w1 hw1 => ?_);rw [((hF.rn3 (o3.neg a6))).eq];exact ⟨rfl, a7, ((hw1.perm ((qb (qb q0)).trans (qc (qa q0)))).tr_out.sub z7), b7⟩
    refine O1 ?_;refine Vp ?_;refine pO ?_;refine bS _ _ (vp ((qb (qb q0)).trans (qc (qa q0))) (nC (nA nE))) mixed 8 [(true, 0), (true, 1), (true, 2), (true, 3), (true, 4), (true, 5), (true, 6), (false, 7)] fH ?_;refine fJ ?_;refine Z4 ?_;refine Av (Ea Iw) (k := ?_);refine Z59 ?_;have hu23 := AD9 ((Mw x ([(fRoom xs cap frm n)] : List Int)).getD x_1 default);refine Av (P3 (s := (Mw x ([(fRoom xs cap frm n)] : List Int))) x_1 runUnderlying9 Qd) (k := ?_);refine cI (args := [_, _]) (Bc call98) func98 ntmps98 ?_;refine mN _ (eqp (nC (nA nE))) ?_;refine Kk ?_;refine Ka mixed 12 [(true, 0), (true, 1), (true, 2), (true, 3), (true, 4), (true, 5), (true, 6), (true, 7), (true, 8), (true, 10), (false, 9), (true, 11)] fH ?_;refine Z4 ?_;refine Z31 ?_;refine fJ ?_;refine Z4 ?_;refine Av (Ea Hh) (k := ?_);refine Z47 ?_;refine cI (args := [_, _]) (Bc call70) func70 ntmps70 ?_;refine fE ?_;refine Z19 ?_;refine Av (Ea Nv) (k := ?_);refine Z47 ?_;refine Av (Zx) (k := ?_);refine Z4 ?_;refine Z56 ?_;refine Av (mW) (k := ?_);refine Z46 ?_;refine Z8 ?_;refine Vb ?_;refine fV _ _ results70 Rm (vp (List.Perm.refl _) nE) (List.Sublist.refl _) ?_;refine Av (mQ (n := cap) runUnderlying38 sizeOf5 ((frm + x_3) % cap) (b7.slj Ah) (gD Qd) (by first | rfl | omega | simp)) (k := ?_);refine Lk ?_;refine pT ((frm + x_3) % cap) ((((Mw x ([(fRoom xs cap frm n)] : List Int)).getD x_1 default).toNat : Nat) : Int) sizeOf5 Ah b7 (qb q0) (by first | omega | (simp only [List.length_set]; omega)) (k := fun Bs1 hos1 => ?_);refine Z8 ?_;refine Z1 ?_;refine Am (Mr) (k := ?_);refine Am (Ea Hh) (k := ?_);refine Am (Bu isAgg3) (k := ?_);refine Am (Zx) (k := ?_);refine Am (Mr) (k := ?_);refine Z49 ?_;refine Ct ?_;refine fW _ _ results98 Mt.nil (vp (((qc (qa q0)).trans (qb q0)).trans (qc (qa q0))) (nC (nA nE))) (List.Sublist.refl _) ?_;refine bT ?_;refine Xa (nC (nA nE)) ?_;refine Ct ?_;refine O2 ?_;refine Km _ (((qb q0).trans (qc q0)).trans (qa (qc q0))) ?_;exact mS n_4 (x_1 + 1) (x_2.set ((frm + x_3) % cap) ((((Mw x ([(fRoom xs cap frm n)] : List Int)).getD x_1 default).toNat : Nat) : Int)) Bs1 (x_3 + 1) ⟨by omega, (o3.pos a6), hos1, (by first | omega | (rw [List.length_set]; omega)), (by first | omega | (rw [List.length_set]; omega))⟩ (Nat.lt_succ_self _) se (List.Perm.refl _)

theorem Xh (w : World) {a : Nat} {xa : Option Addr} {xc : Nat} {B : Ad} {xs : List Int} {cap : Nat} {frm : Nat} {n : Nat} {m : Nat} (ho : Bg Er 1 5 xa xc B xs) (hl : xs.length = cap) (hf : frm < cap) (hn : n ≤ cap) (h4 : cap ≤ 4096) (hb : ∀ p ∈ ((a, Obj.cells [(Value.slice (xa) (cap) (xc)), (Value.int .i64 (((frm : Nat) : Int))), (Value.int .i64 (((n : Nat) : Int)))].toArray 148) :: B), w.heap[p.1]? = some p.2) (hnd : (keys ((a, Obj.cells [(Value.slice (xa) (cap) (xc)), (Value.int .i64 (((frm : Nat) : Int))), (Value.int .i64 (((n : Nat) : Int)))].toArray 148) :: B)).Nodup) (hm : m ≤ 1000000) : Zc Tryz.prog 49 [(Value.pointer (some ⟨a, 0, none⟩)), (Value.int .i64 (((m : Nat) : Int)))] w (Value.string (bs (fPeek xs cap frm n m))) := by
  have hF := Is.refl (fPeek xs cap frm n m);have c5 := ho.le';have hMk : ∀ k ∈ keys ((a, Obj.cells [(Value.slice (xa) (cap) (xc)), (Value.int .i64 (((frm : Nat) : Int))), (Value.int .i64 (((n : Nat) : Int)))].toArray 148) :: B), k < w.heap.size := fun k hk => by
    obtain ⟨o, ho⟩ := Cb hk;exact (Array.getElem?_eq_some_iff.1 (hb _ ho)).1
  refine zQ (keys ((a, Obj.cells [(Value.slice (xa) (cap) (xc)), (Value.int .i64 (((frm : Nat) : Int))), (Value.int .i64 (((n : Nat) : Int)))].toArray 148) :: B)) ((a, Obj.cells [(Value.slice (xa) (cap) (xc)), (Value.int .i64 (((frm : Nat) : Int))), (Value.int .i64 (((n : Nat) : Int)))].toArray 148) :: (B ++ [])) (by simpa using hb) (fun p hp => Dn (by simpa using hp)) O0 func49 ntmps49 (h := ?_);refine fE ?_;refine El ?_;refine Dw hMk (Ig (l := [_]) zeroValue38) (k := fun r1 b6 => ?_);refine zF ?_;refine Vp ?_;refine Z68 ?_;refine Am (AD3) (k := ?_);refine Z8 ?_;refine Kl rfl (fun a6 => ?_) (fun a6 => ?_)
  · refine Kk ?_;refine El ?_;refine Vq ?_;refine Qs ?_;refine cE [] (List.Perm.refl _) results49 Rm (fun w1 hw1 => ?_);refine ⟨?_, ((hw1.perm ((qb (qb q0)).trans (qc (qa q0)))).tr_out.sub z7).ext hb⟩;rw [((hF.pos a6)).eq]
    try rfl
  refine Z16 ?_;refine Kk ?_;refine Z9 ?_;refine Lf (args := [_, _]) (Bc call101) func101 ntmps101 ?_;refine Z5 ?_;refine Dw hMk (Wu (l := [_])) (k := fun r2 b9 => ?_);refine Dw hMk (Wu (l := [_])) (k := fun r3 o4 => ?_);refine bN ?_;refine El ?_;refine Am (Bu isAgg69) (k := ?_);refine Z51 ?_;refine Am (Tt) (k := ?_);refine Dw hMk (Ig (l := [_]) zeroValue135) (k := fun r4 o5 => ?_);refine Qe (Dm (l' := [_]) sizeOf135) (k := ?_);refine yM ?_;refine Am (Tt) (k := ?_);refine Vq ?_;refine Pl results101 Rm ?_;refine Z50 ?_;refine gA hMk rfl call141 func141 ntmps141 (fun l5 rD5 rr5 hl5 => ?_);refine mU ?_;refine Kk ?_;refine mM ?_;refine Z2 ?_;refine Ka mixed 8 [(true, 0), (true, 1), (true, 2), (true, 3), (true, 4), (true, 5), (true, 6), (true, 7)] fH ?_;refine Av (Bu isAgg3) (k := ?_);refine Av (Bu isAgg69) (k := ?_);refine Av (Mr) (k := ?_);refine Av (Ea Iw) (k := ?_);refine Av (Ea Hh) (k := ?_);refine Av (Bu isAgg3) (k := ?_);refine Av (M0) (k := ?_);refine fJ ?_;refine Lk ?_;refine Z50 ?_;refine zN (σ1 := Nat) (σ2 := Nat) (σ3 := List Int) (σ4 := Option Addr) (σ5 := Nat) (σ6 := Ad) (fun n_3 x_1 x_2 c7 c8 a7 => (a7 ++ ((l5, Cu rr5 .ready none) :: ((rD5, Obj.deferred (some [])) :: ((r4, Obj.cells [(Value.func (.func 70) [(Value.pointer (some ⟨a, 0, none⟩))].toArray [].toArray)].toArray 135) :: ((r3, Obj.cells [(Value.int .i64 (((m : Nat) : Int)))].toArray 3) :: ((r2, Obj.cells [(Value.pointer (some ⟨a, 0, none⟩))].toArray 69) :: ((r1, Obj.cells [(Value.slice (c7) (x_2.length) (c8))].toArray 38) :: ((a, Obj.cells [(Value.slice (xa) (cap) (xc)), (Value.int .i64 (((frm : Nat) : Int))), (Value.int .i64 (((n : Nat) : Int)))].toArray 148) :: (B ++ [])))))))))) (fun n_3 x_1 x_2 c7 c8 a7 => [(0, (Value.func (.yield l5) [].toArray [].toArray)), (2, (Value.pointer (some ⟨r2, 0, none⟩))), (3, (Value.pointer (some ⟨r4, 0, none⟩))), (12, (Value.int .i64 ((if ((n : Nat) : Int) < ((m : Nat) : Int) then ((n : Nat) : Int) else ((m : Nat) : Int))))), (13, (Value.int .i64 (((x_1 : Nat) : Int))))]) (fun n_3 x_1 x_2 c7 c8 a7 => ((if ((n : Nat) : Int) < ((m : Nat) : Int) then ((n : Nat) : Int) else ((m : Nat) : Int)) - ((x_1 : Nat) : Int)).toNat < n_3 ∧ Is (Ga xs cap frm n m (((if ((n : Nat) : Int) < ((m : Nat) : Int) then ((n : Nat) : Int) else ((m : Nat) : Int)) - ((0 : Nat) : Int)).toNat + 1) 0 []) (Ga xs cap frm n m n_3 x_1 x_2) ∧ Bg Er 1 5 c7 c8 a7 x_2 ∧ x_2.length = x_1 ∧ x_1 ≤ n) (fun n_3 x_1 x_2 c7 c8 a7 => n_3) (((if ((n : Nat) : Int) < ((m : Nat) : Int) then ((n : Nat) : Int) else ((m : Nat) : Int)) - ((0 : Nat) : Int)).toNat + 1) 0 ([]) none 0 ([]) ?_ se (List.Perm.refl _) ?_
  · exact ⟨Nat.lt_succ_self _, Is.refl _, Bg.nil, K5, K5⟩
  · rintro (_ | n_3) x_1 x_2 c7 c8 a7 ⟨hm5, d6, b7, hi6, hi7⟩
    · omega
    have hmin : (if ((n : Nat) : Int) < ((m : Nat) : Int) then ((n : Nat) : Int) else ((m : Nat) : Int)) ≤ n := by split <;> omega
    have hmd : (frm + x_1) % cap < cap := Nat.mod_lt _ z6;refine zD ?_;refine Kl rfl (fun c6 => ?_) (fun c6 => ?_);rotate_left
    · refine Hw ?_;refine sF ?_;refine fU ?_;refine tA (.inr rfl) results141 (qc q0) ?_;refine Kn ?_;refine Z2 ?_;refine El ?_;refine Z55 ?_;refine mY (n := x_2.length) (x0 := default) Jm underlying38 Ah rfl ⟨by omega, by omega⟩ (k := fun ax2 l6 d4 => ?_);refine bN ?_;refine Z1 ?_;refine Am (Bu isAgg38) (k := ?_);refine Z55 ?_;refine Z55 ?_;have hl3 : (x_2.take x_2.length).length = x_2.length := by rw [List.length_take]; omega
      have hl3c := b7.le';refine Am (Zd (x_2.take x_2.length).length x_2.length runUnderlying38 (fun w => ⟨_, sizeOf5 w⟩) (hi := z6) (hi2 := z6)) (k := ?_);refine fL 7 (Value.slice (ax2) ((x_2.take x_2.length).length) (x_2.length)) rfl Jy ?_;refine fL 22 (Value.slice (ax2) ((x_2.take x_2.length).length) (x_2.length)) rfl Jy ?_;refine zT (n := (x_2.take x_2.length).length) Jm underlying38 Ah d4 q0 ((b7.take Ah x_2.length).slj Ah) Jy Jy (kk := fun l8 d5 => ?_);refine zF ?_;refine Z1 ?_;refine Am (tG underlying9 underlying38 underlying5 (d5.slj Ah)) (k := ?_);refine Vq ?_;refine cE [rD5] (qc (qa (qc q0))) results49 Rm (fun w1 hw1 => ?_);refine ⟨?_, ((hw1.perm ((qd (qb (qd (qb (qb (qb (qb (qb q0)))))))).trans (qc (qc (qa (qc (qa (qa (qa (qa q0)))))))))).tr_out.sub z7).ext hb⟩;rw [(((hF.neg a6).rn2 (d6.neg c6))).eq]
      try rfl
    refine O1 ?_;refine Vp ?_;refine bN ?_;refine Ka mixed 11 [(true, 0), (true, 1), (true, 2), (true, 3), (true, 4), (true, 5), (true, 6), (true, 7), (false, 8), (true, 9), (true, 10)] fH ?_;refine fJ ?_;refine Av (Bu isAgg69) (k := ?_);refine Av (Mr) (k := ?_);refine Av (Ea Iw) (k := ?_);refine Z31 ?_;refine Av (Bu isAgg135) (k := ?_);refine fJ ?_;refine cI (args := [_, _]) (Bc call70) func70 ntmps70 ?_;refine mN _ (eqp nE) ?_;refine fE ?_;refine Z19 ?_;refine Av (Ea Nv) (k := ?_);refine Z47 ?_;refine Av (Zx) (k := ?_);refine Z4 ?_;refine Z56 ?_;refine Av (mW) (k := ?_);refine Z46 ?_;refine Z8 ?_;refine Vb ?_;refine fV _ _ results70 Rm (vp (List.Perm.refl _) nE) (List.Sublist.refl _) ?_;refine Av (mQ (n := cap) runUnderlying38 sizeOf5 ((frm + x_1) % cap) (ho.slj Ah) (gD Qd) (by first | rfl | omega | simp)) (k := ?_);refine Av (bV isAgg5 ((frm + x_1) % cap) 0 (ho.slj Ah) (gD Qd)) (k := ?_);refine Lk ?_;refine tB (vs := [(Value.int .u8 ((xs.getD ((frm + x_1) % cap) default)))]) hl5 (qc q0) sO ?_;refine El ?_;refine Z0 ?_;refine fP q0 ?_;refine Ie ?_;refine El ?_;refine Am (Bu isAgg38) (k := ?_);refine Za ?_;refine Dw hMk sE (k := fun r6 o6 => ?_);refine Bw (x_2 ++ ([(xs.getD ((frm + x_1) % cap) default)] : List Int)) rfl Jm underlying38 Ah b7 (qb (qb q0)) (Jk.lit (xs := ([(xs.getD ((frm + x_1) % cap) default)] : List Int)) Ah) ⟨by omega, by omega⟩ (n := x_2.length) (m := 1) (k := fun ax1 cx1 i6 b5 => ?_);have hal1 : (x_2 ++ ([(xs.getD ((frm + x_1) % cap) default)] : List Int)).length = x_2.length + 1 := by first | rfl | exact List.length_append | simp
    refine Qe (Dm (l' := [_]) sizeOf38) (k := ?_);refine Ct ?_;refine Kn ?_;refine Zz (qc (qa q0)) ?_;refine Am (L7) (k := ?_);refine Z8 ?_;refine Jo rfl ?_;refine Nf ?_;refine O2 ?_;refine Km _ (((((((((qb (qd (qb (qb (qb (qb (qb (qb (qb q0))))))))).trans (qc (qa (qc (qa (qa (qa (qa (qa (qa q0)))))))))).trans (qa (qc (qa (qc (qa (qa (qa (qa (qa q0)))))))))).trans (qa (qa (qc (qa (qc (qa (qa (qa (qa q0)))))))))).trans (qa (qa (qa (qc (qa (qc (qa (qa (qa q0)))))))))).trans (qa (qa (qa (qa (qc (qa (qc (qa (qa q0)))))))))).trans (qa (qa (qa (qa (qa (qc (qa (qc (qa q0)))))))))).trans (qa (qa (qa (qa (qa (qa (qc q0)))))))).trans (qb (qb (qb (qb (qb (qb (qb (qd q0))))))))) ?_;refine Rn _ (List.Sublist.append (List.Sublist.refl _) (List.Sublist.cons_cons _ (List.Sublist.cons_cons _ (List.Sublist.cons_cons _ (List.Sublist.cons_cons _ (List.Sublist.cons_cons _ (List.Sublist.cons_cons _ (List.Sublist.cons_cons _ (List.Sublist.append (List.Sublist.refl _) (List.nil_sublist _)))))))))) ?_;exact zO n_3 (x_1 + 1) (x_2 ++ ([(xs.getD ((frm + x_1) % cap) default)] : List Int)) ax1 cx1 i6 ⟨by omega, (d6.pos c6), b5, z6, z6⟩ (Nat.lt_succ_self _) se (List.Perm.refl _)

theorem tS (w : World) {a : Nat} {xa : Option Addr} {xc : Nat} {B : Ad} {xs : List Int} {cap : Nat} {frm : Nat} {n : Nat} {i : Nat} (ho : Bg Er 1 5 xa xc B xs) (hl : xs.length = cap) (hf : frm < cap) (hn : n ≤ cap) (h4 : cap ≤ 4096) (hb : ∀ p ∈ ((a, Obj.cells [(Value.slice (xa) (cap) (xc)), (Value.int .i64 (((frm : Nat) : Int))), (Value.int .i64 (((n : Nat) : Int)))].toArray 148) :: B), w.heap[p.1]? = some p.2) (hnd : (keys ((a, Obj.cells [(Value.slice (xa) (cap) (xc)), (Value.int .i64 (((frm : Nat) : Int))), (Value.int .i64 (((n : Nat) : Int)))].toArray 148) :: B)).Nodup) (hi : i ≤ 4096) : Zc Tryz.prog 70 [(Value.pointer (some ⟨a, 0, none⟩)), (Value.int .i64 (((i : Nat) : Int)))] w (Value.int .i64 ((fAt xs cap frm n i))) := by
  have hF := Is.refl (fAt xs cap frm n i);have c5 := ho.le';have hMk : ∀ k ∈ keys ((a, Obj.cells [(Value.slice (xa) (cap) (xc)), (Value.int .i64 (((frm : Nat) : Int))), (Value.int .i64 (((n : Nat) : Int)))].toArray 148) :: B), k < w.heap.size := fun k hk => by
    obtain ⟨o, ho⟩ := Cb hk;exact (Array.getElem?_eq_some_iff.1 (hb _ ho)).1
  refine Tu (keys ((a, Obj.cells [(Value.slice (xa) (cap) (xc)), (Value.int .i64 (((frm : Nat) : Int))), (Value.int .i64 (((n : Nat) : Int)))].toArray 148) :: B)) ((a, Obj.cells [(Value.slice (xa) (cap) (xc)), (Value.int .i64 (((frm : Nat) : Int))), (Value.int .i64 (((n : Nat) : Int)))].toArray 148) :: (B ++ [])) (by simpa using hb) (fun p hp => Dn (by simpa using hp)) O0 func70 ntmps70 (h := ?_);refine fE ?_;refine Z19 ?_;refine Av (Ea Nv) (k := ?_);refine Z47 ?_;refine Av (Zx) (k := ?_);refine Z4 ?_;refine Z56 ?_;refine Av (mW) (k := ?_);refine Z46 ?_;refine Z8 ?_;refine Vb ?_;refine Df results70 Rm (fun w1 hw1 => ?_);refine ⟨?_, ((hw1.perm (List.Perm.refl _)).tr_out.sub z7).ext hb⟩;rfl

theorem B7 (w : World) {a : Nat} {xa : Option Addr} {xc : Nat} {B : Ad} {xs : List Int} {cap : Nat} {frm : Nat} {n : Nat} {m : Nat} (ho : Bg Er 1 5 xa xc B xs) (hl : xs.length = cap) (hf : frm < cap) (hn : n ≤ cap) (h4 : cap ≤ 4096) (hb : ∀ p ∈ ((a, Obj.cells [(Value.slice (xa) (cap) (xc)), (Value.int .i64 (((frm : Nat) : Int))), (Value.int .i64 (((n : Nat) : Int)))].toArray 148) :: B), w.heap[p.1]? = some p.2) (hnd : (keys ((a, Obj.cells [(Value.slice (xa) (cap) (xc)), (Value.int .i64 (((frm : Nat) : Int))), (Value.int .i64 (((n : Nat) : Int)))].toArray 148) :: B)).Nodup) (hm : m ≤ 1000000) : Calls Tryz.prog 29 (List.toArray [(Value.pointer (some ⟨a, 0, none⟩)), (Value.int .i64 (((m : Nat) : Int)))]) w fun e w2 => e = .returned (Value.string (bs ((fPop xs cap frm n m).1))) ∧ ∃ B1 : Ad, Tr w w2 ((a, Obj.cells [(Value.slice (xa) (cap) (xc)), (Value.int .i64 (((frm : Nat) : Int))), (Value.int .i64 (((n : Nat) : Int)))].toArray 148) :: B) ((a, Obj.cells [(Value.slice (xa) (cap) (xc)), (Value.int .i64 (((((fPop xs cap frm n m).2.1) : Nat) : Int))), (Value.int .i64 ((fPop xs cap frm n m).2.2.1))].toArray 148) :: B1) ∧ Bg Er 1 5 xa xc B1 (fPop xs cap frm n m).2.2.2 := by
  have hF := Is.refl (fPop xs cap frm n m);have c5 := ho.le';have hMk : ∀ k ∈ keys ((a, Obj.cells [(Value.slice (xa) (cap) (xc)), (Value.int .i64 (((frm : Nat) : Int))), (Value.int .i64 (((n : Nat) : Int)))].toArray 148) :: B), k < w.heap.size := fun k hk => by
    obtain ⟨o, ho⟩ := Cb hk;exact (Array.getElem?_eq_some_iff.1 (hb _ ho)).1
  refine Tu (keys ((a, Obj.cells [(Value.slice (xa) (cap) (xc)), (Value.int .i64 (((frm : Nat) : Int))), (Value.int .i64 (((n : Nat) : Int)))].toArray 148) :: B)) ((a, Obj.cells [(Value.slice (xa) (cap) (xc)), (Value.int .i64 (((frm : Nat) : Int))), (Value.int .i64 (((n : Nat) : Int)))].toArray 148) :: (B ++ [])) (by simpa using hb) (fun p hp => Dn (by simpa using hp)) O0 func29 ntmps29 (h := ?_);refine Z5 ?_;refine Dw hMk (Wu (l := [_])) (k := fun r1 b6 => ?_);refine bN ?_;refine El ?_;refine Am (Bu isAgg69) (k := ?_);refine Za ?_;refine Mv (Bc call49) (fun w1 hw1 => Xh w1 (xs := xs) (cap := cap) (frm := frm) (n := n) (m := m) ho hl hf hn h4 (fun p hp => by rcases List.mem_cons.1 hp with rfl | hp <;> exact hw1.own _ z8) hnd z6) (k := ?_);have hpl := aB xs cap frm n m;refine Dw hMk (Ig (l := [_]) zeroValue9) (k := fun r2 b9 => ?_);refine Qe (Dm (l' := [_]) sizeOf9) (k := ?_);refine yM ?_;refine Am (Tt) (k := ?_);refine bN ?_;refine Z5 ?_;refine zG ?_;refine Am (M1) (k := ?_);refine Z8 ?_;refine Kl rfl (fun a6 => ?_) (fun a6 => ?_);rotate_left
  · refine Nf ?_;refine Z2 ?_;refine El ?_;refine zG ?_;refine Vq ?_;refine Df results29 Rm (fun w1 hw1 => ?_);rw [((hF.neg a6)).eq];exact ⟨rfl, B, ((hw1.perm ((qb (qb (qb q0))).trans (qc (qa (qa q0))))).tr_out.sub z7), ho⟩
  refine Z1 ?_;refine Lf (args := [_, _]) (Bc call69) func69 ntmps69 ?_;refine mX _ _ [((⟨a, 2, none⟩ : Addr), (Value.int .i64 (((n : Nat) : Int))))] (vp (qa (qa q0)) (nC nE)) (by repeat (first | exact KC.nil | refine KC.cons z14 rfl ?_)) mixed 20 [(true, 0), (true, 1), (true, 2), (true, 3), (true, 4), (true, 5), (true, 6), (true, 8), (true, 9), (true, 10), (true, 11), (true, 12), (true, 13), (true, 14), (true, 15), (false, 7), (true, 16), (true, 17), (true, 18), (false, 19)] fH ?_;refine Ns ((Bu isAgg69).k) (k := ?_);refine Ns ((Bu isAgg69).k) (k := ?_);refine Z60 ?_;refine Z39 ?_;refine Z60 ?_;refine Ns ((Ea Hh).k) (k := ?_);refine Ns (tD isAgg3) (k := ?_);refine Z39 ?_;refine Ns ((Vd).k) (k := ?_);refine M4 (Bc call70) (fun w1 hw1 => tS w1 (xs := xs) (cap := cap) (frm := frm) (n := n) (i := ((fPeek xs cap frm n m).length)) ho hl hf hn h4 (fun p hp => by rcases List.mem_cons.1 hp with rfl | hp <;> exact hw1.own _ z8) hnd z6) (k := ?_);refine Z35 ?_;refine Ns ((Ea Nv).k) (k := ?_);refine AE4 (V' := ((a, Obj.cells [(Value.slice (xa) (cap) (xc)), (Value.int .i64 (((((frm + ((fPeek xs cap frm n m).length)) % cap) : Nat) : Int))), (Value.int .i64 (((n : Nat) : Int)))].toArray 148) :: [])) (by repeat (first | exact KC.nil | refine KC.cons z14 rfl ?_)) (Dm (l' := [_, _, _]) sizeOf3) (k := ?_);refine tC ?_;refine Xa (nC nE) ?_;refine Z51 ?_;refine Z49 ?_;refine Ct ?_;refine Vw results69 Mt.nil ?_;refine yM ?_;refine zG ?_;refine Vq ?_;refine Df results29 Rm (fun w1 hw1 => ?_);rw [((hF.pos a6)).eq];exact ⟨rfl, B, ((hw1.perm ((qb (qb (qb q0))).trans (qc q0))).tr_out.sub z7), ho⟩

theorem qD (w : World) {a : Nat} {xa : Option Addr} {xc : Nat} {B : Ad} {xs : List Int} {cap : Nat} {frm : Nat} {n : Nat} (ho : Bg Er 1 5 xa xc B xs) (hl : xs.length = cap) (hf : frm < cap) (hn : n ≤ cap) (h4 : cap ≤ 4096) (hb : ∀ p ∈ ((a, Obj.cells [(Value.slice (xa) (cap) (xc)), (Value.int .i64 (((frm : Nat) : Int))), (Value.int .i64 (((n : Nat) : Int)))].toArray 148) :: B), w.heap[p.1]? = some p.2) (hnd : (keys ((a, Obj.cells [(Value.slice (xa) (cap) (xc)), (Value.int .i64 (((frm : Nat) : Int))), (Value.int .i64 (((n : Nat) : Int)))].toArray 148) :: B)).Nodup) : Calls Tryz.prog 182 (List.toArray [(Value.pointer (some ⟨a, 0, none⟩))]) w fun e w2 => e = .returned (Value.int .i64 (((fClear xs cap frm n).1))) ∧ ∃ B1 : Ad, Tr w w2 ((a, Obj.cells [(Value.slice (xa) (cap) (xc)), (Value.int .i64 (((frm : Nat) : Int))), (Value.int .i64 (((n : Nat) : Int)))].toArray 148) :: B) ((a, Obj.cells [(Value.slice (xa) (cap) (xc)), (Value.int .i64 (((((fClear xs cap frm n).2.1) : Nat) : Int))), (Value.int .i64 ((fClear xs cap frm n).2.2.1))].toArray 148) :: B1) ∧ Bg Er 1 5 xa xc B1 (fClear xs cap frm n).2.2.2 := by
  have hF := Is.refl (fClear xs cap frm n);have c5 := ho.le';have hMk : ∀ k ∈ keys ((a, Obj.cells [(Value.slice (xa) (cap) (xc)), (Value.int .i64 (((frm : Nat) : Int))), (Value.int .i64 (((n : Nat) : Int)))].toArray 148) :: B), k < w.heap.size := fun k hk => by
    obtain ⟨o, ho⟩ := Cb hk;exact (Array.getElem?_eq_some_iff.1 (hb _ ho)).1
  refine Tu (keys ((a, Obj.cells [(Value.slice (xa) (cap) (xc)), (Value.int .i64 (((frm : Nat) : Int))), (Value.int .i64 (((n : Nat) : Int)))].toArray 148) :: B)) ((a, Obj.cells [(Value.slice (xa) (cap) (xc)), (Value.int .i64 (((frm : Nat) : Int))), (Value.int .i64 (((n : Nat) : Int)))].toArray 148) :: (B ++ [])) (by simpa using hb) (fun p hp => Dn (by simpa using hp)) O0 func182 ntmps182 (h := ?_);refine fE ?_;refine Z9 ?_;refine Z68 ?_;refine Lf (args := [_, _]) (Bc call29) func29 ntmps29 ?_;refine Z5 ?_;refine Dw hMk (Wu (l := [_])) (k := fun r1 b6 => ?_);refine bN ?_;refine El ?_;refine Am (Bu isAgg69) (k := ?_);refine Za ?_;refine Mv (Bc call49) (fun w1 hw1 => Xh w1 (xs := xs) (cap := cap) (frm := frm) (n := n) (m := n) ho hl hf hn h4 (fun p hp => by rcases List.mem_cons.1 hp with rfl | hp <;> exact hw1.own _ z8) hnd z6) (k := ?_);have hpl := aB xs cap frm n n;refine Dw hMk (Ig (l := [_]) zeroValue9) (k := fun r2 b9 => ?_);refine Qe (Dm (l' := [_]) sizeOf9) (k := ?_);refine yM ?_;refine Am (Tt) (k := ?_);refine bN ?_;refine Z5 ?_;refine zG ?_;refine Am (M1) (k := ?_);refine Z8 ?_;refine Kl rfl (fun a6 => ?_) (fun a6 => ?_);rotate_left
  · refine Nf ?_;refine Z2 ?_;refine El ?_;refine zG ?_;refine Vq ?_;refine Pl results29 Rm ?_;refine O3 ?_;refine Vq ?_;refine Df results182 Rm (fun w1 hw1 => ?_);rw [((hF.neg a6)).eq];exact ⟨rfl, B, ((hw1.perm ((qb (qb (qb q0))).trans (qc (qa (qa q0))))).tr_out.sub z7), ho⟩
  refine Z1 ?_;refine Lf (args := [_, _]) (Bc call69) func69 ntmps69 ?_;refine mX _ _ [((⟨a, 2, none⟩ : Addr), (Value.int .i64 (((n : Nat) : Int))))] (vp (qa (qa q0)) (nC nE)) (by repeat (first | exact KC.nil | refine KC.cons z14 rfl ?_)) mixed 20 [(true, 0), (true, 1), (true, 2), (true, 3), (true, 4), (true, 5), (true, 6), (true, 8), (true, 9), (true, 10), (true, 11), (true, 12), (true, 13), (true, 14), (true, 15), (false, 7), (true, 16), (true, 17), (true, 18), (false, 19)] fH ?_;refine Ns ((Bu isAgg69).k) (k := ?_);refine Ns ((Bu isAgg69).k) (k := ?_);refine Z60 ?_;refine Z39 ?_;refine Z60 ?_;refine Ns ((Ea Hh).k) (k := ?_);refine Ns (tD isAgg3) (k := ?_);refine Z39 ?_;refine Ns ((Vd).k) (k := ?_);refine M4 (Bc call70) (fun w1 hw1 => tS w1 (xs := xs) (cap := cap) (frm := frm) (n := n) (i := ((fPeek xs cap frm n n).length)) ho hl hf hn h4 (fun p hp => by rcases List.mem_cons.1 hp with rfl | hp <;> exact hw1.own _ z8) hnd z6) (k := ?_);refine Z35 ?_;refine Ns ((Ea Nv).k) (k := ?_);refine AE4 (V' := ((a, Obj.cells [(Value.slice (xa) (cap) (xc)), (Value.int .i64 (((((frm + ((fPeek xs cap frm n n).length)) % cap) : Nat) : Int))), (Value.int .i64 (((n : Nat) : Int)))].toArray 148) :: [])) (by repeat (first | exact KC.nil | refine KC.cons z14 rfl ?_)) (Dm (l' := [_, _, _]) sizeOf3) (k := ?_);refine tC ?_;refine Xa (nC nE) ?_;refine Z51 ?_;refine Z49 ?_;refine Ct ?_;refine Vw results69 Mt.nil ?_;refine yM ?_;refine zG ?_;refine Vq ?_;refine Pl results29 Rm ?_;refine O3 ?_;refine Vq ?_;refine Df results182 Rm (fun w1 hw1 => ?_);rw [((hF.pos a6)).eq];exact ⟨rfl, B, ((hw1.perm ((qb (qb (qb q0))).trans (qc q0))).tr_out.sub z7), ho⟩

theorem B8 (w : World) {cap : Nat} (h1 : 1 ≤ cap) (h4 : cap ≤ 4096) : Calls Tryz.prog 83 (List.toArray [(Value.int .i64 (((cap : Nat) : Int)))]) w fun e w2 => ∃ (a : Nat) (xa : Option Addr) (xc : Nat) (B : Ad), e = .returned (.tuple [.pointer (some ⟨a, 0, none⟩), .int .i64 0].toArray) ∧ Va w w2 ((a, Obj.cells [(Value.slice (xa) (cap) (xc)), (Value.int .i64 (0)), (Value.int .i64 (0))].toArray 148) :: B) ∧ Bg Er 1 5 xa xc B (List.replicate cap (0 : Int)) := by
  have hF := Is.refl ();refine enter func83 ntmps83 (h := ?_);refine Z5 ?_;refine Am (Dt) (k := ?_);refine bN ?_;refine Vp ?_;refine Am (sH) (k := ?_);refine Za ?_;refine O4 6 rfl (fun a6 => ?_) (fun a6 => ?_)
  · refine fY 2 rfl ?_;refine Am (zL) (k := ?_);refine Z8 ?_;refine bO rfl ?_;refine Z5 ?_;refine Am (Dt) (k := ?_);refine Vq ?_;refine Qs ?_;refine Df results83 (Mt.tmp rfl Rm) (fun w1 hw1 => ?_);omega
  refine L6 (kC) (k := ?_);refine L6 (AD1) (k := ?_);refine Am (zM) (k := ?_);refine Z8 ?_;refine Kl rfl (fun c6 => ?_) (fun c6 => ?_)
  · refine Kk ?_;refine El ?_;refine Am (Dt) (k := ?_);refine Vq ?_;refine Qs ?_;refine Df results83 (Mt.tmp rfl Rm) (fun w1 hw1 => ?_);omega
  refine Z16 ?_;refine Z1 ?_;refine mY (n := cap) (x0 := default) Jm underlying38 Ah rfl ⟨by omega, by omega⟩ (k := fun ax1 i6 b5 => ?_);refine Am (bX (cs := [_, _, _]) zeroValue146 Q4) (k := ?_);refine Am (bX (cs := [_, _, _]) zeroValue148 Q5) (k := ?_);refine Dw Fx (Wu (l := [_, _, _])) (k := fun r1 b6 => ?_);refine Am (Dt) (k := ?_);refine Vq ?_;refine Df results83 (Mt.tmp rfl Rm) (fun w1 hw1 => ?_);have hlr : (List.replicate cap (0 : Int)).length = cap := List.length_replicate
  first | exact ⟨_, _, _, _, rfl, (hw1.perm (List.Perm.refl _)).fresh_out.sub z7, b5⟩ | (have hz := b5; simp only [List.length_replicate] at hw1; exact ⟨_, _, _, _, rfl, (hw1.perm (List.Perm.refl _)).fresh_out.sub z7, hz⟩)

end Go.Proofs.YtbooaoddioibeaaGreatDoor.Jd

namespace Go.Proofs.YtbooaoddioibeaaGreatDoor.Jd
open Go.Proofs.Tryz
open Go.Proofs
set_option linter.unusedVariables false
set_option linter.unusedSimpArgs false
def nL (xs : List Int) (cap frm : Nat) (q : Ep) : Prop := ∀ i, i < q.length → xs.getD ((frm + i) % cap) default = ((q.getD i default).toNat : Int)
theorem AE7 (n m : Nat) : (if ((n : Nat) : Int) < ((m : Nat) : Int) then ((n : Nat) : Int) else ((m : Nat) : Int)) = ((min n m : Nat) : Int) := by
  split <;> omega
theorem Ve {xs : List Int} {cap frm n m : Nat} {q : Ep} (hq : nL xs cap frm q) (hn : n = q.length) : ∀ (f x1 : Nat) (acc : List Int), min n m - x1 < f → x1 ≤ min n m →
    Ga xs cap frm n m f x1 acc = (min n m, acc ++ Li ((q.take m).drop x1))
  | 0, x1, acc, h, _ => by omega
  | f + 1, x1, acc, h, h1 => by
    rw [Ga, AE7];by_cases hx : x1 < min n m
    · rw [if_pos z6, Ve hq hn f (x1 + 1) _ z6 z6];have hl : x1 < (q.take m).length := by rw [List.length_take]; omega
      rw [List.drop_eq_getElem_cons hl, hq x1 z6];have e : (q.take m)[x1] = q.getD x1 default := by
        rw [List.getElem_take, List.getD_eq_getElem?_getD, List.getElem?_eq_getElem z6]; rfl
      rw [e];simp [Li]
    · rw [if_neg z6];have hl : (q.take m).length ≤ x1 := by rw [List.length_take]; omega
      rw [List.drop_eq_nil_of_le hl];simp [Li]; omega
theorem Xi {xs : List Int} {cap frm n m : Nat} {q : Ep} (hq : nL xs cap frm q) (hn : n = q.length) : fPeek xs cap frm n m = q.take m := by
  unfold fPeek;split
  · rename_i h
    have : q = [] := List.length_eq_zero_iff.1 z6;subst this; simp
  · rw [Ve hq hn _ _ _ (by rw [AE7]; omega) z6];simp only [cH, List.drop_zero, List.nil_append, List.take_length, nF]
theorem nL.drop {xs : List Int} {cap frm : Nat} {q : Ep} (h : nL xs cap frm q) (k : Nat) : nL xs cap ((frm + k) % cap) (q.drop k) := fun i hi => by
  rw [List.length_drop] at hi;have := h (k + i) z6;rw [Nat.mod_add_mod, Nat.add_assoc, this];simp [List.getD_eq_getElem?_getD, List.getElem?_drop]
theorem B9 {xs : List Int} {cap frm n m : Nat} {q : Ep} (hq : nL xs cap frm q) (hn : n = q.length) (hf : frm < cap) : ∃ frm', frm' < cap ∧ fPop xs cap frm n m = (q.take m, frm', ((q.drop m).length : Int), xs) ∧ nL xs cap frm' (q.drop m) := by
  unfold fPop;rw [Xi hq hn];split
  · refine ⟨(frm + (q.take m).length) % cap, Nat.mod_lt _ z6, ?_, ?_⟩
    · simp only [Prod.mk.injEq, true_and, and_true];rw [List.length_take, List.length_drop]; omega
    · have := hq.drop (q.take m).length;have e : q.drop (q.take m).length = q.drop m := by
        rw [List.length_take];by_cases hm : m ≤ q.length
        · rw [Nat.min_eq_left hm]
        · rw [Nat.min_eq_right z6, List.drop_length, List.drop_eq_nil_of_le z6]
      rw [e] at this; exact this
  · rename_i h
    have h : q.take m = [] := Decidable.byContradiction h;have e : q.drop m = q := by
      have := List.take_append_drop m q;rw [h] at this; simpa using this
    exact ⟨frm, hf, by rw [e, hn], by rw [e]; exact hq⟩
theorem qE {xs : List Int} {cap frm n : Nat} {q : Ep} (hq : nL xs cap frm q) (hn : n = q.length) (hf : frm < cap) : ∃ frm', frm' < cap ∧ fClear xs cap frm n = ((q.length : Int), frm', 0, xs) := by
  unfold fClear;rw [Xi hq hn, List.take_of_length_le z6];split
  · exact ⟨(frm + q.length) % cap, Nat.mod_lt _ z6, by rw [hn, Int.sub_self]⟩
  · rename_i h
    have h : q = [] := Decidable.byContradiction h;exact ⟨frm, hf, by subst h; simp [hn]⟩
theorem AP7 {xs : List Int} {j k : Nat} {v : Int} (hj : j < xs.length) : (xs.set j v).getD k default = if j = k then v else xs.getD k default := by
  simp only [List.getD_eq_getElem?_getD, List.getElem?_set];split
  · rename_i h; subst h; simp [hj]
  · rfl
theorem Q6 {cap frm a b : Nat} (h : a < b) (hb : b < cap) : (frm + a) % cap ≠ (frm + b) % cap := fun e => by
  have h1 := Nat.div_add_mod (frm + a) cap;have h2 := Nat.div_add_mod (frm + b) cap;rw [e] at h1;have h3 : cap * ((frm + b) / cap) = cap * ((frm + a) / cap) + (b - a) := by omega
  have h4 : cap * ((frm + b) / cap - (frm + a) / cap) = b - a := by rw [Nat.mul_sub]; omega
  rcases Nat.eq_zero_or_pos ((frm + b) / cap - (frm + a) / cap) with h5 | h5
  · rw [h5] at h4; omega
  · have := Nat.le_mul_of_pos_right cap h5; omega
theorem Vf {cap frm n : Nat} {x : Ep} {xs0 : List Int} (hn0 : n ≤ cap) : ∀ (f x1 : Nat) (xs : List Int) (q : Ep), (Ff cap n x).length - x1 < f → x1 ≤ (Ff cap n x).length → xs.length = cap → q.length = n + x1 → nL xs cap frm q →
    ∃ xs', Kp xs0 cap frm n x f x1 xs (n + x1) = ((Ff cap n x).length, xs', n + (Ff cap n x).length) ∧ xs'.length = cap ∧ nL xs' cap frm (q ++ (Ff cap n x).drop x1)
  | 0, x1, xs, q, h, _, _, _, _ => by omega
  | f + 1, x1, xs, q, h, h1, hl, hq, hQ => by
    rw [Kp, cN xs0 cap frm n x hn0];have hle : (Ff cap n x).length ≤ cap - n := by unfold Ff; rw [List.length_take]; omega
    by_cases hx : x1 < (Ff cap n x).length
    · rw [if_pos z6];have hj : (frm + (n + x1)) % cap < xs.length := by rw [hl]; exact Nat.mod_lt _ z6
      have hd : (Ff cap n x).drop x1 = (Ff cap n x).getD x1 default :: (Ff cap n x).drop (x1 + 1) := by
        rw [List.drop_eq_getElem_cons hx, List.getD_eq_getElem?_getD, List.getElem?_eq_getElem hx]; rfl
      obtain ⟨xs', g1, g2, g3⟩ := Vf (xs0 := xs0) (x := x) hn0 f (x1 + 1) (xs.set ((frm + (n + x1)) % cap) (((((Ff cap n x).getD x1 default).toNat : Nat) : Int))) (q ++ [(Ff cap n x).getD x1 default]) z6 z6 (by simpa using hl) (by simp; omega) (fun i hi => by
        simp only [List.length_append, List.length_cons, List.length_nil] at hi;rw [AP7 hj];by_cases hi2 : i < q.length
        · rw [if_neg (fun e => Q6 (show i < n + x1 by omega) z6 e.symm), hQ i hi2];simp only [List.getD_eq_getElem?_getD, List.getElem?_append_left hi2]
        · have : i = n + x1 := by omega
          subst this;rw [if_pos rfl];simp only [List.getD_eq_getElem?_getD, List.getElem?_append_right (show q.length ≤ n + x1 by omega)];rw [show n + x1 - q.length = 0 by omega];rfl)
      refine ⟨xs', g1, g2, ?_⟩;rw [hd];simpa using g3
    · rw [if_neg z6];have : x1 = (Ff cap n x).length := by omega
      subst this;exact ⟨xs, rfl, hl, by simpa using hQ⟩
theorem tT {xs : List Int} {cap frm n : Nat} {q x : Ep} (hl : xs.length = cap) (hq : nL xs cap frm q) (hn : n = q.length) (hn0 : n ≤ cap) :
    ∃ xs', fPush xs cap frm n x = (((Ff cap n x).length : Int), frm, ((q ++ Ff cap n x).length : Int), xs') ∧ xs'.length = cap ∧ nL xs' cap frm (q ++ Ff cap n x) := by
  obtain ⟨xs', h1, h2, h3⟩ := Vf (xs0 := xs) (x := x) hn0 ((Ff cap n x).length + 1) 0 xs q z6 z6 hl z6 hq;refine ⟨xs', ?_, h2, by simpa using h3⟩;unfold fPush;rw [cN xs cap frm n x hn0];simp only [Nat.add_zero] at h1;rw [h1];simp only [P1, List.length_append, hn]
end Go.Proofs.YtbooaoddioibeaaGreatDoor.Jd

namespace Go.Proofs.YtbooaoddioibeaaGreatDoor.Jd
open Go.Proofs.Tryz
open Go.Proofs
set_option linter.unusedVariables false
set_option linter.unusedSimpArgs false

structure Lin where
  c : Int
  l : List (Nat × Int)
def Az (σ : Nat → Int) : List (Nat × Int) → Int
  | [] => 0
  | p :: r => p.2 * σ p.1 + Az σ r
def Lin.den (σ : Nat → Int) (e : Lin) : Int := e.c + Az σ e.l
def nM : Int → Bool
  | .ofNat n => Nat.beq n 0
  | .negSucc _ => false
theorem Xj : ∀ {k : Int}, nM k = true → k = 0
  | .ofNat n, h => by have := Nat.eq_of_beq_eq_true h; subst this; rfl
  | .negSucc n, h => by cases h
def geZ : Int → Bool
  | .ofNat _ => true
  | .negSucc _ => false
theorem tU : ∀ {k : Int}, geZ k = true → 0 ≤ k
  | .ofNat n, _ => Int.natCast_nonneg n
  | .negSucc n, h => by simp [geZ] at h
theorem Q7 : ∀ {k : Int}, geZ k = false → k ≤ 0
  | .ofNat n, h => by simp [geZ] at h
  | .negSucc n, _ => by omega
def aC (v : Nat) (k : Int) (r : List (Nat × Int)) : List (Nat × Int) := match nM k with
  | true => r
  | false => (v, k) :: r
theorem Lt (σ : Nat → Int) (v : Nat) (k : Int) (r : List (Nat × Int)) : Az σ (aC v k r) = k * σ v + Az σ r := by
  unfold aC;split
  · rename_i h; rw [Xj h]; simp
  · rfl
def nN (v : Nat) (k : Int) : List (Nat × Int) → List (Nat × Int)
  | [] => aC v k []
  | p :: r => match Nat.beq p.1 v with
    | true => aC p.1 (p.2 + k) r
    | false => match Nat.blt v p.1 with
      | true => aC v k (p :: r)
      | false => p :: nN v k r
theorem Xk (σ : Nat → Int) (v : Nat) (k : Int) : ∀ l, Az σ (nN v k l) = k * σ v + Az σ l
  | [] => Lt σ v k []
  | p :: r => by
    unfold nN;split
    · rename_i h
      have := Nat.eq_of_beq_eq_true h;rw [Lt, this, Az, this, Int.add_mul]; omega
    · split
      · exact Lt σ v k _
      · rw [Az, Xk σ v k r, Az]; omega
def aD : List (Nat × Int) → List (Nat × Int) → List (Nat × Int)
  | [], b => b
  | p :: r, b => nN p.1 p.2 (aD r b)
theorem Qv (σ : Nat → Int) : ∀ a b, Az σ (aD a b) = Az σ a + Az σ b
  | [], b => by simp [aD, Az]
  | p :: r, b => by rw [aD, Xk, Qv σ r b, Az]; omega
def aE (k : Int) : List (Nat × Int) → List (Nat × Int)
  | [] => []
  | p :: r => aC p.1 (k * p.2) (aE k r)
theorem Qw (σ : Nat → Int) (k : Int) : ∀ a, Az σ (aE k a) = k * Az σ a
  | [] => by simp [aE, Az]
  | p :: r => by rw [aE, Lt, Qw σ k r, Az, Int.mul_add, Int.mul_assoc]
namespace Lin
set_option linter.unusedVariables false
set_option linter.unusedSimpArgs false
def const (n : Int) : Lin := ⟨n, []⟩
def add (a b : Lin) : Lin := ⟨a.c + b.c, aD a.l b.l⟩
def smul (k : Int) (a : Lin) : Lin := ⟨k * a.c, aE k a.l⟩
def sub (a b : Lin) : Lin := ⟨a.c - b.c, aD a.l (aE (-1) b.l)⟩
def addc (a : Lin) (n : Int) : Lin := ⟨a.c + n, a.l⟩
variable (σ : Nat → Int)
theorem den_const (n : Int) : (const n).den σ = n := by simp [const, den, Az]
theorem den_add (a b : Lin) : (add a b).den σ = a.den σ + b.den σ := by simp only [add, den, Qv]; omega
theorem den_smul (k : Int) (a : Lin) : (smul k a).den σ = k * a.den σ := by simp only [smul, den, Qw, Int.mul_add]
theorem den_sub (a b : Lin) : (sub a b).den σ = a.den σ - b.den σ := by simp only [sub, den, Qv, Qw]; omega
theorem den_addc (a : Lin) (n : Int) : (addc a n).den σ = a.den σ + n := by simp only [addc, den]; omega
end Lin

structure Bd where
  /-- Of each number: from, to. -/
  b : List (Int × Int)
  /-- Linear forms that are not negative. -/
  f : List Lin
  /-- Of each text: its length. -/
  s : List Lin
def Bk {α : Type} : List α → Nat → Option α
  | [], _ => none
  | v :: _, 0 => some v
  | _ :: r, n + 1 => Bk r n
theorem cO {α : Type} : ∀ (l : List α) (k : Nat), Bk l k = l[k]?
  | [], _ => rfl
  | _ :: _, 0 => rfl
  | _ :: r, n + 1 => by simp [Bk, cO r n]
structure Hc (B : Bd) (σ : Nat → Int) (τ : Nat → List UInt8) : Prop where
  b : ∀ i p, Bk B.b i = some p → p.1 ≤ σ i ∧ σ i ≤ p.2
  f : ∀ e ∈ B.f, 0 ≤ e.den σ
  s : ∀ i e, Bk B.s i = some e → ((τ i).length : Int) = e.den σ
def tV (b : List (Int × Int)) : List (Nat × Int) → Option Int
  | [] => some 0
  | p :: r => match Bk b p.1, tV b r with
    | some q, some m => some ((match geZ p.2 with | true => p.2 * q.1 | false => p.2 * q.2) + m)
    | _, _ => none
theorem nO {B : Bd} {σ : Nat → Int} {τ : Nat → List UInt8} (h : Hc B σ τ) : ∀ {l : List (Nat × Int)} {m : Int}, tV B.b l = some m → m ≤ Az σ l
  | [], m, e => by simp only [tV, Option.some.injEq] at e; subst e; simp [Az]
  | p :: r, m, e => by
    simp only [tV] at e;split at e
    · rename_i q k hq hr
      simp only [Option.some.injEq] at e;subst e;obtain ⟨h1, h2⟩ := h.b _ _ hq;have ih := nO h hr;rw [Az];split
      · rename_i hg
        have := Int.mul_le_mul_of_nonneg_left h1 (tU hg);omega
      · rename_i hg
        have := Int.mul_le_mul_of_nonpos_left (Q7 hg) h2;omega
    · cases e
def C0 (B : Bd) (e : Lin) : Bool := match tV B.b e.l with
  | some m => geZ (e.c + m)
  | none => false
theorem nP {B : Bd} {σ : Nat → Int} {τ : Nat → List UInt8} (h : Hc B σ τ) {e : Lin} (he : C0 B e = true) : 0 ≤ e.den σ := by
  unfold C0 at he;split at he
  · rename_i m hm
    have := nO h hm;have := tU he;unfold Lin.den; omega
  · cases he
def tW (B : Bd) (e : Lin) : List Lin → Bool
  | [] => false
  | f :: r => match C0 B (e.sub f) with
    | true => true
    | false => tW B e r
theorem nR {B : Bd} {σ : Nat → Int} {τ : Nat → List UInt8} (h : Hc B σ τ) {e : Lin} : ∀ {l : List Lin}, (∀ f ∈ l, 0 ≤ f.den σ) → tW B e l = true → 0 ≤ e.den σ
  | [], _, he => by simp [tW] at he
  | f :: r, hl, he => by
    unfold tW at he;split at he
    · rename_i hf
      have h1 := nP h hf;have h2 := hl f List.mem_cons_self;rw [Lin.den_sub] at h1; omega
    · exact nR h (fun g hg => hl g (List.mem_cons_of_mem _ hg)) he
def gL (B : Bd) (e : Lin) : Bool := match C0 B e with
  | true => true
  | false => tW B e B.f
theorem Hx {B : Bd} {σ : Nat → Int} {τ : Nat → List UInt8} (h : Hc B σ τ) {e : Lin} (he : gL B e = true) : 0 ≤ e.den σ := by
  unfold gL at he;split at he
  · rename_i hl; exact nP h hl
  · exact nR h h.f he
def kO (B : Bd) (a b : Lin) : Bool := gL B (b.sub a)
theorem Ix {B : Bd} {σ : Nat → Int} {τ : Nat → List UInt8} (h : Hc B σ τ) {a b : Lin} (he : kO B a b = true) : a.den σ ≤ b.den σ := by
  have := Hx h he;rw [Lin.den_sub] at this; omega
def ltB (B : Bd) (a b : Lin) : Bool := gL B ((b.sub a).addc (-1))
theorem cP {B : Bd} {σ : Nat → Int} {τ : Nat → List UInt8} (h : Hc B σ τ) {a b : Lin} (he : ltB B a b = true) : a.den σ < b.den σ := by
  have := Hx h he;rw [Lin.den_addc, Lin.den_sub] at this; omega
def ltQ (B : Bd) (a b : Lin) : Option Bool := match ltB B a b with
  | true => some true
  | false => match kO B b a with
    | true => some false
    | false => none
theorem cQ {B : Bd} {σ : Nat → Int} {τ : Nat → List UInt8} (h : Hc B σ τ) {a b : Lin} {r : Bool} (he : ltQ B a b = some r) : r = decide (a.den σ < b.den σ) := by
  unfold ltQ at he;split at he
  · rename_i h1; have := cP h h1; simp only [Option.some.injEq] at he; subst he; simp [this]
  · split at he
    · rename_i h1; have := Ix h h1; simp only [Option.some.injEq] at he; subst he; simp; omega
    · cases he
def AE9 : List (Nat × Int) → Bool
  | [] => true
  | _ :: _ => false
def C1 (e : Lin) : Bool := AE9 e.l && nM e.c
theorem Qx {e : Lin} (h : C1 e = true) (σ : Nat → Int) : e.den σ = 0 := by
  obtain ⟨c, l⟩ := e;simp only [C1, Bool.and_eq_true] at h;obtain ⟨h1, h2⟩ := h;cases l with
  | nil => simp [Lin.den, Az, Xj h2]
  | cons => simp [AE9] at h1
def Uc (e : Lin) : Option Nat := match e.l with
  | [] => match e.c with
    | .ofNat n => some n
    | .negSucc _ => none
  | _ :: _ => none
theorem Pm {e : Lin} {n : Nat} (h : Uc e = some n) (σ : Nat → Int) : e.den σ = n := by
  obtain ⟨c, l⟩ := e;simp only [Uc] at h;split at h
  · split at h
    · simp only [Option.some.injEq] at h; subst h; simp [Lin.den, Az]
    · cases h
  · cases h
def eqQ (B : Bd) (a b : Lin) : Option Bool := match C1 (a.sub b) with
  | true => some true
  | false => match ltB B a b with
    | true => some false
    | false => match ltB B b a with
      | true => some false
      | false => none
theorem cR {B : Bd} {σ : Nat → Int} {τ : Nat → List UInt8} (h : Hc B σ τ) {a b : Lin} {r : Bool} (he : eqQ B a b = some r) : r = decide (a.den σ = b.den σ) := by
  unfold eqQ at he;split at he
  · rename_i h1; have := Qx h1 σ; rw [Lin.den_sub] at this; simp only [Option.some.injEq] at he; subst he; simp; omega
  · split at he
    · rename_i h1; have := cP h h1; simp only [Option.some.injEq] at he; subst he; simp; omega
    · split at he
      · rename_i h1; have := cP h h1; simp only [Option.some.injEq] at he; subst he; simp; omega
      · cases he
def Fm (d : Nat) : List (Nat × Int) → List (Nat × Int) × List (Nat × Int)
  | [] => ([], [])
  | p :: r => match nM (p.2 % d) with
    | true => ((p.1, p.2 / d) :: (Fm d r).1, (Fm d r).2)
    | false => ((Fm d r).1, p :: (Fm d r).2)
theorem Xl (σ : Nat → Int) (d : Nat) : ∀ l, Az σ l = (d : Int) * Az σ (Fm d l).1 + Az σ (Fm d l).2
  | [] => by simp [Fm, Az]
  | p :: r => by
    have ih := Xl σ d r;simp only [Fm];split
    · rename_i h
      have h := Xj h;have : p.2 = d * (p.2 / d) := by have := Int.mul_ediv_add_emod p.2 d; omega
      simp only [Az];rw [ih, Int.mul_add];rw [← Int.mul_assoc, ← this];omega
    · simp only [Az]; omega
def C2 (B : Bd) (e : Lin) (d : Nat) : Option (Lin × Lin) :=
  let r : Lin := ⟨e.c % d, (Fm d e.l).2⟩
  match Nat.blt 0 d && (gL B r && ltB B r (.const d)) with
  | true => some (⟨e.c / d, (Fm d e.l).1⟩, r)
  | false => none
theorem nS {B : Bd} {σ : Nat → Int} {τ : Nat → List UInt8} (h : Hc B σ τ) {e q r : Lin} {d : Nat} (he : C2 B e d = some (q, r)) : 0 < d ∧ e.den σ / d = q.den σ ∧ e.den σ % d = r.den σ := by
  unfold C2 at he;simp only at he;split at he
  · rename_i h1
    simp only [Bool.and_eq_true, Nat.blt_eq] at h1;obtain ⟨hd, h1, h2⟩ := h1;have h1 := Hx h h1;have h2 := cP h h2;simp only [Option.some.injEq, Prod.mk.injEq] at he;obtain ⟨rfl, rfl⟩ := he;rw [Lin.den_const] at h2;have e1 : e.den σ = d * (Lin.den σ ⟨e.c / d, (Fm d e.l).1⟩) + Lin.den σ ⟨e.c % d, (Fm d e.l).2⟩ := by
      have := Xl σ d e.l;have := Int.mul_ediv_add_emod e.c d;simp only [Lin.den, Int.mul_add]; omega
    refine ⟨hd, ?_, ?_⟩
    · rw [e1, Int.mul_add_ediv_left _ _ z6, Int.ediv_eq_zero_of_lt h1 h2]; omega
    · rw [e1, Int.mul_add_emod_self_left, Int.emod_eq_of_lt h1 h2]
  · cases he

inductive Pc where
  | lit (b : List UInt8)
  | byt (e : Lin)
  | var (i : Nat)
def tX (n : Int) : UInt8 := UInt8.ofNat n.toNat
def Pc.den (σ : Nat → Int) (τ : Nat → List UInt8) : Pc → List UInt8
  | .lit b => b
  | .byt e => [tX (e.den σ)]
  | .var i => τ i
def Aq (σ : Nat → Int) (τ : Nat → List UInt8) : List Pc → List UInt8
  | [] => []
  | p :: r => p.den σ τ ++ Aq σ τ r
theorem Hi (σ : Nat → Int) (τ : Nat → List UInt8) : ∀ a b, Aq σ τ (a ++ b) = Aq σ τ a ++ Aq σ τ b
  | [], b => rfl
  | p :: r, b => by simp only [List.cons_append, Aq, Hi σ τ r b, List.append_assoc]
def Pc.len (B : Bd) : Pc → Option Lin
  | .lit b => some (.const b.length)
  | .byt _ => some (.const 1)
  | .var i => Bk B.s i
theorem Pc.len_ok {B : Bd} {σ : Nat → Int} {τ : Nat → List UInt8} (h : Hc B σ τ) {p : Pc} {e : Lin} (hp : p.len B = some e) : ((p.den σ τ).length : Int) = e.den σ := by
  cases p with
  | lit b => simp only [Pc.len, Option.some.injEq] at hp; subst hp; rw [Lin.den_const]; rfl
  | byt b => simp only [Pc.len, Option.some.injEq] at hp; subst hp; rw [Lin.den_const]; rfl
  | var i => exact h.s _ _ hp
def Nw (B : Bd) : List Pc → Option Lin
  | [] => some (.const 0)
  | p :: r => match p.len B, Nw B r with
    | some a, some b => some (a.add b)
    | _, _ => none
theorem Ei {B : Bd} {σ : Nat → Int} {τ : Nat → List UInt8} (h : Hc B σ τ) : ∀ {l : List Pc} {e : Lin}, Nw B l = some e → ((Aq σ τ l).length : Int) = e.den σ
  | [], e, he => by simp only [Nw, Option.some.injEq] at he; subst he; rw [Lin.den_const]; rfl
  | p :: r, e, he => by
    simp only [Nw] at he;split at he
    · rename_i a b ha hb
      simp only [Option.some.injEq] at he;subst he;have h1 := Pc.len_ok h ha;have h2 := Ei h hb;rw [Lin.den_add, Aq, List.length_append, ← h1, ← h2]; omega
    · cases he
def Xm (B : Bd) : List Pc → Lin → Option (List Pc)
  | [], e => match C1 e with
    | true => some []
    | false => none
  | p :: r, e => match C1 e with
    | true => some (p :: r)
    | false => match p.len B with
      | none => none
      | some n => match kO B n e with
        | true => Xm B r (e.sub n)
        | false => match p, Uc e with
          | .lit b, some k => match Nat.ble k b.length with
            | true => some (.lit (b.drop k) :: r)
            | false => none
          | _, _ => none
theorem Xn {B : Bd} {σ : Nat → Int} {τ : Nat → List UInt8} (h : Hc B σ τ) : ∀ {l : List Pc} {e : Lin} {l' : List Pc}, 0 ≤ e.den σ → Xm B l e = some l' → ∃ a, Aq σ τ l = a ++ Aq σ τ l' ∧ (a.length : Int) = e.den σ := by
  intro l
  induction l with
  | nil =>
    intro e l' h0 he;simp only [Xm] at he;split at he
    · rename_i hz; simp only [Option.some.injEq] at he; subst he; exact ⟨[], rfl, by rw [Qx hz]; rfl⟩
    · cases he
  | cons p r ih =>
    intro e l' h0 he;simp only [Xm] at he;split at he
    · rename_i hz; simp only [Option.some.injEq] at he; subst he; exact ⟨[], rfl, by rw [Qx hz]; rfl⟩
    · split at he
      · cases he
      · rename_i n hn
        have hlen := Pc.len_ok h hn;split at he
        · rename_i hle
          have hle := Ix h hle;obtain ⟨a, h1, h2⟩ := ih (by rw [Lin.den_sub]; omega) he;rw [Lin.den_sub] at h2;exact ⟨p.den σ τ ++ a, by rw [Aq, h1, List.append_assoc], by rw [List.length_append]; omega⟩
        · split at he
          · rename_i b k hck
            split at he
            · rename_i hk
              simp only [Option.some.injEq] at he;subst he;have hk : k ≤ b.length := by simpa using hk
              refine ⟨b.take k, ?_, ?_⟩
              · simp only [Aq, Pc.den]; rw [← List.append_assoc, List.take_append_drop]
              · rw [Pm hck, List.length_take]; omega
            · cases he
          · cases he
def aF (B : Bd) : List Pc → Lin → Option (List Pc)
  | [], e => match C1 e with
    | true => some []
    | false => none
  | p :: r, e => match C1 e with
    | true => some []
    | false => match p.len B with
      | none => none
      | some n => match kO B n e with
        | true => match aF B r (e.sub n) with
          | none => none
          | some t => some (p :: t)
        | false => match p, Uc e with
          | .lit b, some k => match Nat.ble k b.length with
            | true => some [.lit (b.take k)]
            | false => none
          | _, _ => none
theorem gM {B : Bd} {σ : Nat → Int} {τ : Nat → List UInt8} (h : Hc B σ τ) : ∀ {l : List Pc} {e : Lin} {l' : List Pc}, 0 ≤ e.den σ → aF B l e = some l' → ∃ a, Aq σ τ l = Aq σ τ l' ++ a ∧ ((Aq σ τ l').length : Int) = e.den σ := by
  intro l
  induction l with
  | nil =>
    intro e l' h0 he;simp only [aF] at he;split at he
    · rename_i hz; simp only [Option.some.injEq] at he; subst he; exact ⟨[], rfl, by rw [Qx hz]; rfl⟩
    · cases he
  | cons p r ih =>
    intro e l' h0 he;simp only [aF] at he;split at he
    · rename_i hz; simp only [Option.some.injEq] at he; subst he; exact ⟨Aq σ τ (p :: r), rfl, by rw [Qx hz]; rfl⟩
    · split at he
      · cases he
      · rename_i n hn
        have hlen := Pc.len_ok h hn;split at he
        · rename_i hle
          have hle := Ix h hle;split at he
          · cases he
          · rename_i t ht
            simp only [Option.some.injEq] at he;subst he;obtain ⟨a, h1, h2⟩ := ih (by rw [Lin.den_sub]; omega) ht;rw [Lin.den_sub] at h2;exact ⟨a, by rw [Aq, Aq, h1, List.append_assoc], by rw [Aq, List.length_append]; omega⟩
        · split at he
          · rename_i b k hck
            split at he
            · rename_i hk
              simp only [Option.some.injEq] at he;subst he;have hk : k ≤ b.length := by simpa using hk
              refine ⟨b.drop k ++ Aq σ τ r, ?_, ?_⟩
              · simp only [Aq, Pc.den, List.append_nil]; rw [← List.append_assoc, List.take_append_drop]
              · rw [Pm hck]; simp only [Aq, Pc.den, List.append_nil, List.length_take]; omega
            · cases he
          · cases he
end Go.Proofs.YtbooaoddioibeaaGreatDoor.Jd

namespace Go.Proofs.YtbooaoddioibeaaGreatDoor.Jd
open Go.Proofs.Tryz
open Go.Proofs
set_option linter.unusedVariables false
set_option linter.unusedSimpArgs false

noncomputable def Af {α β : Type} (x : Option α) (k : α → Option β) : Option β := Option.rec none k x
noncomputable def sB {α β : Type} (x : Option α) (n : β) (k : α → β) : β := Option.rec n k x
noncomputable def Be {β : Type} (b : Bool) (t e : β) : β := Bool.rec e t b
noncomputable def Fy {α β : Type} (l : List α) (n : β) (k : α → List α → β → β) : β := List.rec n k l
noncomputable def Q8 {β : Type} (m : Nat) (z : β) (k : Nat → β → β) : β := Nat.rec z k m
@[simp] theorem Sd {α β : Type} (a : α) (k : α → Option β) : Af (some a) k = k a := rfl
@[simp] theorem AF0 {α β : Type} (k : α → Option β) : Af none k = none := rfl
@[simp] theorem Iy {α β : Type} (a : α) (n : β) (k : α → β) : sB (some a) n k = k a := rfl
@[simp] theorem Se {α β : Type} (n : β) (k : α → β) : sB none n k = n := rfl
@[simp] theorem Iz {β : Type} (t e : β) : Be true t e = t := rfl
@[simp] theorem Ft {β : Type} (t e : β) : Be false t e = e := rfl
@[simp] theorem AN6 {α β : Type} (n : β) (k : α → List α → β → β) : Fy [] n k = n := rfl
@[simp] theorem tY {α β : Type} (a : α) (r : List α) (n : β) (k : α → List α → β → β) : Fy (a :: r) n k = k a r (Fy r n k) := rfl
@[simp] theorem AF1 {β : Type} (z : β) (k : Nat → β → β) : Q8 0 z k = z := rfl
@[simp] theorem AF2 {β : Type} (m : Nat) (z : β) (k : Nat → β → β) : Q8 (m + 1) z k = k m (Q8 m z k) := rfl
theorem Ab {α β : Type} {x : Option α} {k : α → Option β} {b : β} : Af x k = some b ↔ ∃ a, x = some a ∧ k a = some b := by
  cases x with
  | none => simp
  | some a => simp
theorem Dg {β : Type} (b : Bool) (t e : β) : Be b t e = if b = true then t else e := by cases b <;> simp
theorem Ch {β : Type} {b : Bool} {t : Option β} {y : β} : Be b t none = some y ↔ b = true ∧ t = some y := by cases b <;> simp

inductive T (α : Type) where
  | leaf
  | node (o : Option α) (l r : T α)
namespace T
set_option linter.unusedVariables false
set_option linter.unusedSimpArgs false
variable {α : Type}
noncomputable def get (t : T α) : Nat → Option α :=
  T.rec (motive := fun _ => Nat → Option α) (fun _ => none) (fun o _ _ gl gr k => Be (Nat.beq k 1) o (Be (Nat.beq (Nat.mod k 2) 0) (gl (Nat.div k 2)) (gr (Nat.div k 2)))) t
theorem get_leaf (k : Nat) : (leaf : T α).get k = none := rfl
theorem Ci (o : Option α) (l r : T α) (k : Nat) : (node o l r).get k = if k = 1 then o else if k % 2 = 0 then l.get (k / 2) else r.get (k / 2) := by
  show Be (Nat.beq k 1) o (Be (Nat.beq (Nat.mod k 2) 0) (l.get (Nat.div k 2)) (r.get (Nat.div k 2))) = _
  simp only [Dg, Nat.beq_eq]; rfl
noncomputable def path (x : α) (f : Nat) : Nat → T α :=
  Q8 f (fun _ => leaf) (fun _ ih k => Be (Nat.beq k 1) (node (some x) leaf leaf) (Be (Nat.beq (Nat.mod k 2) 0) (node none (ih (Nat.div k 2)) leaf) (node none leaf (ih (Nat.div k 2)))))
theorem path_succ (x : α) (f k : Nat) : path x (f + 1) k = if k = 1 then node (some x) leaf leaf else if k % 2 = 0 then node none (path x f (k / 2)) leaf else node none leaf (path x f (k / 2)) := by
  show Be (Nat.beq k 1) _ (Be (Nat.beq (Nat.mod k 2) 0) (node none (path x f (Nat.div k 2)) leaf) (node none leaf (path x f (Nat.div k 2)))) = _
  simp only [Dg, Nat.beq_eq]; rfl
noncomputable def sC (o : Option α) (r c : T α) : T α := T.casesOn c (node o leaf r) (fun a b d => node o (node a b d) r)
noncomputable def inR (o : Option α) (l c : T α) : T α := T.casesOn c (node o l leaf) (fun a b d => node o l (node a b d))
theorem Q9 (o : Option α) (r c : T α) : sC o r c = node o c r := by cases c <;> rfl
theorem R4 (o : Option α) (l c : T α) : inR o l c = node o l c := by cases c <;> rfl
noncomputable def set (x : α) (t : T α) : Nat → T α :=
  T.rec (motive := fun _ => Nat → T α) (fun k => path x k k) (fun o l r sl sr k => Be (Nat.beq k 1) (node (some x) l r) (Be (Nat.beq (Nat.mod k 2) 0) (sC o r (sl (Nat.div k 2))) (inR o l (sr (Nat.div k 2))))) t
theorem set_leaf (x : α) (k : Nat) : (leaf : T α).set x k = path x k k := rfl
theorem set_node (x : α) (o : Option α) (l r : T α) (k : Nat) : (node o l r).set x k = if k = 1 then node (some x) l r else if k % 2 = 0 then node o (l.set x (k / 2)) r else node o l (r.set x (k / 2)) := by
  show Be (Nat.beq k 1) (node (some x) l r) (Be (Nat.beq (Nat.mod k 2) 0) (sC o r (l.set x (Nat.div k 2))) (inR o l (r.set x (Nat.div k 2)))) = _
  simp only [Dg, Nat.beq_eq, Q9, R4]; rfl
def toList : T α → List α
  | .leaf => []
  | .node o l r => o.toList ++ (toList l ++ toList r)

theorem Xo (x : α) : ∀ (f k j : Nat), 1 ≤ k → k ≤ f → (path x f k).get j = if j = k then some x else none
  | 0, k, j, h1, h2 => by omega
  | f + 1, k, j, h1, h2 => by
    rw [path_succ];by_cases hk : k = 1
    · subst hk; simp [Ci, get_leaf]
    · rw [if_neg hk];by_cases he : k % 2 = 0
      · rw [if_pos he, Ci];by_cases hj : j = 1
        · subst hj; simp; omega
        · rw [if_neg hj];by_cases hje : j % 2 = 0
          · rw [if_pos hje, Xo x f (k / 2) (j / 2) z6 z6];by_cases e : j = k
            · subst e; simp
            · rw [if_neg e, if_neg z6]
          · rw [if_neg hje, get_leaf, if_neg (by intro e; subst e; exact hje he)]
      · rw [if_neg he, Ci];by_cases hj : j = 1
        · subst hj; simp; omega
        · rw [if_neg hj];by_cases hje : j % 2 = 0
          · rw [if_pos hje, get_leaf, if_neg (by intro e; subst e; exact he hje)]
          · rw [if_neg hje, Xo x f (k / 2) (j / 2) z6 z6];by_cases e : j = k
            · subst e; simp
            · rw [if_neg e, if_neg z6]
theorem get_set (x : α) : ∀ (t : T α) (k j : Nat), 1 ≤ k → (t.set x k).get j = if j = k then some x else t.get j
  | .leaf, k, j, h => by rw [set_leaf, Xo x k k j h (Nat.le_refl _), get_leaf]
  | .node o l r, k, j, h => by
    rw [set_node];by_cases hk : k = 1
    · subst hk;rw [if_pos rfl, Ci, Ci];by_cases hj : j = 1 <;> simp [hj]
    · rw [if_neg hk];by_cases he : k % 2 = 0
      · rw [if_pos he, Ci, Ci];by_cases hj : j = 1
        · subst hj; simp; omega
        · rw [if_neg hj, if_neg hj];by_cases hje : j % 2 = 0
          · rw [if_pos hje, if_pos hje, get_set x l (k / 2) (j / 2) z6];by_cases e : j = k
            · subst e; simp
            · rw [if_neg e, if_neg z6]
          · rw [if_neg hje, if_neg hje, if_neg (by intro e; subst e; exact hje he)]
      · rw [if_neg he, Ci, Ci];by_cases hj : j = 1
        · subst hj; simp; omega
        · rw [if_neg hj, if_neg hj];by_cases hje : j % 2 = 0
          · rw [if_pos hje, if_pos hje, if_neg (by intro e; subst e; exact he hje)]
          · rw [if_neg hje, if_neg hje, get_set x r (k / 2) (j / 2) z6];by_cases e : j = k
            · subst e; simp
            · rw [if_neg e, if_neg z6]
theorem Ud (x : α) : ∀ (f k : Nat), 1 ≤ k → k ≤ f → (path x f k).toList = [x]
  | 0, k, h1, h2 => by omega
  | f + 1, k, h1, h2 => by
    rw [path_succ];by_cases hk : k = 1
    · subst hk; simp [toList]
    · rw [if_neg hk];by_cases he : k % 2 = 0
      · rw [if_pos he]; simp [toList, Ud x f (k / 2) z6 z6]
      · rw [if_neg he]; simp [toList, Ud x f (k / 2) z6 z6]
theorem perm_set (x : α) : ∀ (t : T α) (k : Nat), 1 ≤ k → ∃ R, List.Perm (t.set x k).toList (x :: R) ∧ List.Perm t.toList ((t.get k).toList ++ R)
  | .leaf, k, h => ⟨[], by rw [set_leaf, Ud x k k h (Nat.le_refl _)], by simp [toList, get_leaf]⟩
  | .node o l r, k, h => by
    rw [set_node, Ci];by_cases hk : k = 1
    · subst hk;exact ⟨toList l ++ toList r, by simp [toList], by simp [toList]⟩
    · rw [if_neg hk, if_neg hk];by_cases he : k % 2 = 0
      · rw [if_pos he, if_pos he];obtain ⟨R, h1, h2⟩ := perm_set x l (k / 2) z6;refine ⟨o.toList ++ (R ++ toList r), ?_, ?_⟩
        · simp only [toList];exact ((h1.append_right _).append_left _).trans List.perm_middle
        · simp only [toList];refine ((h2.append_right _).append_left _).trans ?_;cases hg : l.get (k / 2) with
          | none => simp
          | some y =>
            simp only [Option.toList_some, List.singleton_append, List.cons_append];exact List.perm_middle
      · rw [if_neg he, if_neg he];obtain ⟨R, h1, h2⟩ := perm_set x r (k / 2) z6;refine ⟨o.toList ++ (toList l ++ R), ?_, ?_⟩
        · simp only [toList];refine ((h1.append_left _).append_left _).trans ?_;exact (List.Perm.append_left _ List.perm_middle).trans List.perm_middle
        · simp only [toList];refine ((h2.append_left _).append_left _).trans ?_;cases hg : r.get (k / 2) with
          | none => simp
          | some y =>
            simp only [Option.toList_some, List.singleton_append];exact (List.Perm.append_left _ List.perm_middle).trans List.perm_middle
theorem get_perm : ∀ {t : T α} {k : Nat} {x : α}, t.get k = some x → ∃ R, List.Perm t.toList (x :: R)
  | .leaf, k, x, h => by rw [get_leaf] at h; cases h
  | .node o l r, k, x, h => by
    rw [Ci] at h;split at h
    · subst h; exact ⟨_, List.Perm.refl _⟩
    · split at h
      · obtain ⟨R, h1⟩ := get_perm h;exact ⟨o.toList ++ (R ++ toList r), by simp only [toList]; exact ((h1.append_right _).append_left _).trans List.perm_middle⟩
      · obtain ⟨R, h1⟩ := get_perm h;exact ⟨o.toList ++ (toList l ++ R), by simp only [toList]; exact ((h1.append_left _).append_left _).trans ((List.Perm.append_left _ List.perm_middle).trans List.perm_middle)⟩
theorem get_mem {t : T α} {k : Nat} {x : α} (h : t.get k = some x) : x ∈ t.toList := by
  obtain ⟨R, h1⟩ := get_perm h;exact h1.mem_iff.2 List.mem_cons_self
theorem mem_get : ∀ {t : T α} {x : α}, x ∈ t.toList → ∃ k, 1 ≤ k ∧ t.get k = some x
  | .leaf, x, h => by simp [toList] at h
  | .node o l r, x, h => by
    simp only [toList, List.mem_append] at h;rcases h with h | h | h
    · refine ⟨1, Nat.le_refl _, ?_⟩;rw [Ci, if_pos rfl]; cases o <;> simp at h; subst h; rfl
    · obtain ⟨k, hk, h1⟩ := mem_get h;refine ⟨2 * k, by omega, ?_⟩;rw [Ci, if_neg z6, if_pos z6, show 2 * k / 2 = k by omega]; exact h1
    · obtain ⟨k, hk, h1⟩ := mem_get h;refine ⟨2 * k + 1, by omega, ?_⟩;rw [Ci, if_neg z6, if_neg z6, show (2 * k + 1) / 2 = k by omega]; exact h1
theorem sub_perm : ∀ {t t' : T α}, (∀ k x, t.get k = some x → t'.get k = some x) → ∃ R, List.Perm t'.toList (t.toList ++ R)
  | .leaf, t', h => ⟨t'.toList, by simp [toList]⟩
  | .node o l r, .leaf, h => by
    have hn : (node o l r).toList = [] := by
      cases hl : (node o l r).toList with
      | nil => rfl
      | cons x xs =>
        obtain ⟨k, _, hk⟩ := mem_get (t := node o l r) (x := x) (by rw [hl]; exact List.mem_cons_self);have := h k x hk; rw [get_leaf] at this; cases this
    exact ⟨[], by rw [hn]; simp [toList]⟩
  | .node o l r, .node o' l' r', h => by
    have hl : ∀ k x, l.get k = some x → l'.get k = some x := fun k x hk => by
      rcases Nat.eq_zero_or_pos k with rfl | hp
      · -- number 0 is asked of the left branch alone
        have := h 0 x;simp only [Ci] at this;simpa using this (by simpa using hk)
      · have := h (2 * k) x;simp only [Ci, show ¬ 2 * k = 1 by omega, show 2 * k % 2 = 0 by omega, if_false, if_true, show 2 * k / 2 = k by omega] at this;exact this hk
    have hr : ∀ k x, r.get k = some x → r'.get k = some x := fun k x hk => by
      rcases Nat.eq_zero_or_pos k with rfl | hp
      · exact absurd hk (by
          have : ∀ t : T α, ∀ x, t.get 0 = some x → False := by
            intro t
            induction t with
            | leaf => intro x hx; rw [get_leaf] at hx; cases hx
            | node o l r ihl ihr => intro x hx; rw [Ci] at hx; simp at hx; exact ihl x hx
          exact fun hx => this r x hx)
      · have := h (2 * k + 1) x;simp only [Ci, show ¬ 2 * k + 1 = 1 by omega, show ¬ (2 * k + 1) % 2 = 0 by omega, if_false, show (2 * k + 1) / 2 = k by omega] at this;exact this hk
    obtain ⟨Rl, h1⟩ := sub_perm hl;obtain ⟨Rr, h2⟩ := sub_perm hr;have ho : ∃ Ro, List.Perm o'.toList (o.toList ++ Ro) := by
      cases o with
      | none => exact ⟨o'.toList, by simp⟩
      | some x =>
        have := h 1 x (by rw [Ci, if_pos rfl]);rw [Ci, if_pos rfl] at this;subst this;exact ⟨[], by simp⟩
    obtain ⟨Ro, h3⟩ := ho;refine ⟨Ro ++ (Rl ++ Rr), ?_⟩;simp only [toList];refine (h3.append (h1.append h2)).trans ?_;have e : ∀ A B C D E F : List α, List.Perm ((A ++ B) ++ ((C ++ D) ++ (E ++ F))) ((A ++ (C ++ E)) ++ (B ++ (D ++ F))) := by
      intro A B C D E F;simp only [List.append_assoc];refine List.Perm.append_left A ?_;refine (List.perm_append_comm_assoc B C _).trans (List.Perm.append_left C ?_);refine (List.Perm.append_left B (List.perm_append_comm_assoc D E F)).trans ?_;exact List.perm_append_comm_assoc B E _
    exact e _ _ _ _ _ _
end T
end Go.Proofs.YtbooaoddioibeaaGreatDoor.Jd

namespace Go.Proofs.YtbooaoddioibeaaGreatDoor.Jd
open Go.Proofs.Tryz
open Go.Proofs
open Go.RowKit (Below)
set_option linter.unusedVariables false
set_option linter.unusedSimpArgs false

def Eu {α : Type} (p : Program) : Sem α → Option α
  | .pure a => some a
  | .program k => Eu p (k p)
  | .mark _ k => Eu p k
  | _ => none
theorem Dd {α : Type} {p : Program} : ∀ {s : Sem α} {a : α}, Eu p s = some a → ∀ w, s.run p w = .ok a w
  | .pure b, a, h, w => by simp only [Eu, Option.some.injEq] at h; subst h; rfl
  | .program k, a, h, w => Dd (s := k p) h w
  | .mark _ k, a, h, w => Dd (s := k) h w
  | .load .., _, h, _ | .store .., _, h, _ | .new .., _, h, _ | .shape .., _, h, _ | .freeze .., _, h, _ | .frozen .., _, h, _ | .getObj .., _, h, _ | .setObj .., _, h, _ | .choose .., _, h, _ | .sys .., _, h, _ | .halt .., _, h, _ => by simp [Eu] at h

/-- raw: a value in which no block of the run's own stands; i: a block's own number; optr, osl: in a block that grows. -/
inductive V where
  | raw (x : Value)
  | ptr (i off : Nat)
  | optr (i off : Nat)
  | sl (i off len cap : Nat)
  | osl (i j k len : Nat) (m : Option Nat)
  | esl (i j b k : Nat)
  | mp (i : Nat)
  | fn (f : Nat) (first caps : List V)
  | yld (i : Nat)
  | ifc (t : Nat) (v : V)
  | agg (l : List V)
  | tup (l : List V)
  | si (k : IntKind) (e : Lin)
  | ss (l : List Pc)

/-- What the numbers stand for. -/
structure Au where
  blk : Nat → Nat
  own : Nat → Option Addr × Nat
  lp : Nat → Loop
  iv : Nat → Int
  sv : Nat → List UInt8


mutual
def V.den (ρ : Au) : V → Value
  | .raw x => x
  | .ptr i o => .pointer (some ⟨ρ.blk i, o, none⟩)
  | .optr i o => .pointer (some (ea (ρ.own i).1 o))
  | .sl i o n c => .slice (some ⟨ρ.blk i, o, none⟩) n c
  | .osl i j k n m => .slice (if m.getD (ρ.own i).2 = j then (ρ.own i).1 else (ρ.own i).1.map (·.add (j * k))) n (m.getD (ρ.own i).2 - j)
  | .esl i j b k => .slice ((ρ.own i).1.map (·.add ((if (ρ.own i).2 = j then b else j) * k))) 0 ((ρ.own i).2 - j)
  | .mp i => .map (some (ρ.blk i))
  | .fn f a b => .func (.func f) (Ac ρ a).toArray (Ac ρ b).toArray
  | .yld i => .func (.yield (ρ.blk i)) #[] #[]
  | .ifc t v => .iface t (V.den ρ v)
  | .agg l => .agg (Ac ρ l).toArray
  | .tup l => .tuple (Ac ρ l).toArray
  | .si k e => .int k (e.den ρ.iv)
  | .ss l => .string ⟨(Aq ρ.iv ρ.sv l).toArray⟩
def Ac (ρ : Au) : List V → List Value
  | [] => []
  | v :: r => V.den ρ v :: Ac ρ r
 end
mutual
/-- All its numbers are below n. -/
def V.lt (n : Nat) : V → Prop
  | .raw _ => True
  | .ptr i _ => i < n
  | .optr i _ => i < n
  | .sl i _ _ _ => i < n
  | .osl i _ _ _ _ => i < n
  | .esl i _ _ _ => i < n
  | .mp i => i < n
  | .fn _ a b => Dh n a ∧ Dh n b
  | .yld i => i < n
  | .ifc _ v => V.lt n v
  | .agg l => Dh n l
  | .tup l => Dh n l
  | .si _ _ => True
  | .ss _ => True
def Dh (n : Nat) : List V → Prop
  | [] => True
  | v :: r => V.lt n v ∧ Dh n r
 end
/-- Two that stand for the same below n. -/
structure Aj (n : Nat) (ρ σ : Au) : Prop where
  blk : ∀ i, i < n → ρ.blk i = σ.blk i
  own : ∀ i, i < n → ρ.own i = σ.own i
  lp : ∀ i, i < n → ρ.lp i = σ.lp i
  iv : ρ.iv = σ.iv
  sv : ρ.sv = σ.sv
theorem Aj.refl (n : Nat) (ρ : Au) : Aj n ρ ρ := ⟨fun _ _ => rfl, fun _ _ => rfl, fun _ _ => rfl, rfl, rfl⟩
theorem Aj.trans {n m : Nat} {ρ σ τ : Au} (h : Aj n ρ σ) (k : Aj m σ τ) (hn : n ≤ m) : Aj n ρ τ :=
  ⟨fun i hi => (h.blk i hi).trans (k.blk i z6), fun i hi => (h.own i hi).trans (k.own i z6), fun i hi => (h.lp i hi).trans (k.lp i z6), h.iv.trans k.iv, h.sv.trans k.sv⟩

mutual
theorem Gw {n : Nat} {ρ σ : Au} (h : Aj n ρ σ) : ∀ v : V, v.lt n → v.den ρ = v.den σ
  | .raw x, _ => rfl
  | .ptr i o, hv => by simp only [V.den, V.lt] at *; rw [h.blk i hv]
  | .optr i o, hv => by simp only [V.den, V.lt] at *; rw [h.own i hv]
  | .sl i o n c, hv => by simp only [V.den, V.lt] at *; rw [h.blk i hv]
  | .osl i j k n m, hv => by simp only [V.den, V.lt] at *; rw [h.own i hv]
  | .esl i j b k, hv => by simp only [V.den, V.lt] at *; rw [h.own i hv]
  | .mp i, hv => by simp only [V.den, V.lt] at *; rw [h.blk i hv]
  | .fn f a b, hv => by simp only [V.den, V.lt] at *; rw [Cf h a hv.1, Cf h b hv.2]
  | .yld i, hv => by simp only [V.den, V.lt] at *; rw [h.blk i hv]
  | .ifc t v, hv => by simp only [V.den, V.lt] at *; rw [Gw h v hv]
  | .agg l, hv => by simp only [V.den, V.lt] at *; rw [Cf h l hv]
  | .tup l, hv => by simp only [V.den, V.lt] at *; rw [Cf h l hv]
  | .si k e, hv => by simp only [V.den]; rw [h.iv]
  | .ss l, hv => by simp only [V.den]; rw [h.iv, h.sv]
theorem Cf {n : Nat} {ρ σ : Au} (h : Aj n ρ σ) : ∀ l : List V, Dh n l → Ac ρ l = Ac σ l
  | [], _ => rfl
  | v :: r, hl => by simp only [Ac, Dh] at *; rw [Gw h v hl.1, Cf h r hl.2]
 end
mutual
theorem V.lt.mono {n m : Nat} (h : n ≤ m) : ∀ v : V, v.lt n → v.lt m
  | .raw x, _ => by simp only [V.lt]
  | .ptr i o, hv => by simp only [V.lt] at *; omega
  | .optr i o, hv => by simp only [V.lt] at *; omega
  | .sl i o n c, hv => by simp only [V.lt] at *; omega
  | .osl i j k n m, hv => by simp only [V.lt] at *; omega
  | .esl i j b k, hv => by simp only [V.lt] at *; omega
  | .mp i, hv => by simp only [V.lt] at *; omega
  | .fn f a b, hv => by simp only [V.lt] at *; exact ⟨Dh.mono h a hv.1, Dh.mono h b hv.2⟩
  | .yld i, hv => by simp only [V.lt] at *; omega
  | .ifc t v, hv => by simp only [V.lt] at *; exact V.lt.mono h v hv
  | .agg l, hv => by simp only [V.lt] at *; exact Dh.mono h l hv
  | .tup l, hv => by simp only [V.lt] at *; exact Dh.mono h l hv
  | .si k e, hv => by simp only [V.lt]
  | .ss l, hv => by simp only [V.lt]
theorem Dh.mono {n m : Nat} (h : n ≤ m) : ∀ l : List V, Dh n l → Dh m l
  | [], _ => by simp only [Dh]
  | v :: r, hl => by simp only [Dh] at *; exact ⟨V.lt.mono h v hl.1, Dh.mono h r hl.2⟩
 end
theorem Ew (ρ : Au) : ∀ l : List V, Ac ρ l = l.map (V.den ρ)
  | [] => rfl
  | v :: r => by simp only [Ac, List.map_cons, Ew ρ r]
theorem Ej {n : Nat} : ∀ {l : List V}, Dh n l ↔ ∀ v ∈ l, v.lt n
  | [] => by simp [Dh]
  | v :: r => by simp [Dh, Ej (l := r)]
theorem Cq (ρ : Au) (a b : List V) : Ac ρ (a ++ b) = Ac ρ a ++ Ac ρ b := by simp [Ew]
theorem Ag (ρ : Au) (l : List V) : (Ac ρ l).length = l.length := by simp [Ew]
theorem Fp {n : Nat} {a b : List V} : Dh n (a ++ b) ↔ Dh n a ∧ Dh n b := by
  simp only [Ej, List.mem_append];exact ⟨fun h => ⟨fun v hv => h v (.inl hv), fun v hv => h v (.inr hv)⟩, fun h v hv => hv.elim (h.1 v) (h.2 v)⟩

def kP (f : V → Option Value) : List V → Option (List Value)
  | [] => some []
  | v :: r => match f v with
    | none => none
    | some x => match kP f r with
      | none => none
      | some l => some (x :: l)
def V.rawQ : Nat → V → Option Value
  | 0, _ => none
  | _ + 1, .raw x => some x
  | n + 1, .ifc t v => match v.rawQ n with
    | none => none
    | some x => some (.iface t x)
  | n + 1, .agg l => match kP (V.rawQ n) l with
    | none => none
    | some l => some (.agg l.toArray)
  | n + 1, .tup l => match kP (V.rawQ n) l with
    | none => none
    | some l => some (.tuple l.toArray)
  | _ + 1, _ => none
theorem Wa {f : V → Option Value} {ρ : Au} (hf : ∀ v x, f v = some x → v.den ρ = x) : ∀ {l : List V} {k : List Value}, kP f l = some k → Ac ρ l = k
  | [], k, h => by simp only [kP, Option.some.injEq] at h; subst h; rfl
  | v :: r, k, h => by
    simp only [kP] at h;split at h
    · cases h
    · rename_i x hx
      split at h
      · cases h
      · rename_i l hl
        simp only [Option.some.injEq] at h;subst h;simp only [Ac, hf v x hx, Wa hf hl]
theorem cS {ρ : Au} : ∀ (n : Nat) {v : V} {x : Value}, v.rawQ n = some x → v.den ρ = x
  | 0, v, x, h => by cases v <;> simp [V.rawQ] at h
  | n + 1, .raw y, x, h => by simp only [V.rawQ, Option.some.injEq] at h; simpa only [V.den] using h
  | n + 1, .ifc t v, x, h => by
    simp only [V.rawQ] at h;split at h
    · cases h
    · rename_i y hy; simp only [Option.some.injEq] at h; subst h; simp only [V.den, cS n hy]
  | n + 1, .agg l, x, h => by
    simp only [V.rawQ] at h;split at h
    · cases h
    · rename_i y hy; simp only [Option.some.injEq] at h; subst h; simp only [V.den, Wa (fun v x => cS n) hy]
  | n + 1, .tup l, x, h => by
    simp only [V.rawQ] at h;split at h
    · cases h
    · rename_i y hy; simp only [Option.some.injEq] at h; subst h; simp only [V.den, Wa (fun v x => cS n) hy]
  | n + 1, .ptr .., _, h | n + 1, .optr .., _, h | n + 1, .sl .., _, h | n + 1, .osl .., _, h | n + 1, .esl .., _, h | n + 1, .mp .., _, h | n + 1, .fn .., _, h | n + 1, .yld .., _, h | n + 1, .si .., _, h | n + 1, .ss .., _, h => by simp [V.rawQ] at h
noncomputable def rawQ (v : V) : Option Value := V.casesOn v (fun x => some x) (fun _ _ => none) (fun _ _ => none) (fun _ _ _ _ => none) (fun _ _ _ _ _ => none) (fun _ _ _ _ => none) (fun _ => none) (fun _ _ _ => none) (fun _ => none) (fun t v => V.rawQ 6 (.ifc t v)) (fun l => V.rawQ 6 (.agg l)) (fun l => V.rawQ 6 (.tup l)) (fun _ _ => none) (fun _ => none)
theorem cT {ρ : Au} {v : V} {x : Value} (h : rawQ v = some x) : v.den ρ = x := by
  cases v <;> first | (cases h; done) | (exact cS 6 h) | (simp only [rawQ, Option.some.injEq] at h; subst h; simp only [V.den])

def Ap : V → List V
  | .agg l => l
  | .raw x => (Ar x).map .raw
  | v => [v]
theorem Sf (ρ : Au) (l : List Value) : Ac ρ (l.map .raw) = l := by
  induction l with
  | nil => rfl
  | cons x r ih => simp only [List.map_cons, Ac, V.den, ih]
theorem Di (ρ : Au) (v : V) : Ar (v.den ρ) = Ac ρ (Ap v) := by
  cases v <;> simp [Ap, V.den, Ac, Ar, Sf]
theorem Ee {n : Nat} {v : V} (h : v.lt n) : Dh n (Ap v) := by
  cases v with
  | raw x => simp only [Ap, Ej]; intro v hv; obtain ⟨y, _, rfl⟩ := List.mem_map.1 hv; simp [V.lt]
  | agg l => simpa [Ap, V.lt] using h
  | _ => first | (simp [Ap, Dh, V.lt]; done) | (simpa [Ap, Dh, V.lt] using h)

abbrev Gb := T (Nat × V)
noncomputable def Nx (E : Gb) (t : Nat) : Option V := sB (E.get (t + 1)) none (fun p => some p.2)
noncomputable def putV (E : Gb) (t : Nat) (v : V) : Gb := E.set (t, v) (t + 1)
def Lu (ρ : Au) (E : Gb) : Dq := E.toList.map fun p => (p.1, p.2.den ρ)
def Vr (n : Nat) (E : Gb) : Prop := ∀ p ∈ E.toList, p.2.lt n
def WE (E : Gb) : Prop := ∀ k p, E.get k = some p → k = p.1 + 1
theorem qF {E : Gb} {t : Nat} {v : V} (hw : WE E) (h : Nx E t = some v) : E.get (t + 1) = some (t, v) := by
  unfold Nx at h;cases hg : E.get (t + 1) with
  | none => rw [hg] at h; simp at h
  | some p =>
    rw [hg] at h;simp only [Iy, Option.some.injEq] at h;have := hw _ _ hg;obtain ⟨p1, p2⟩ := p;simp only at h this;subst h;have : p1 = t := by omega
    subst this; rfl
theorem Jp : ∀ {l : Dq} {t : Nat} {u : Value}, (∀ p ∈ l, p.1 = t → p.2 = u) → (t, u) ∈ l → look l t = some u
  | [], _, _, _, h => by cases h
  | p :: r, t, u, hu, h => by
    simp only [look];split
    · rename_i hb
      rw [hu p List.mem_cons_self (Nat.eq_of_beq_eq_true hb)]
    · rename_i hb
      rcases List.mem_cons.1 h with rfl | h
      · simp at hb
      · exact Jp (fun q hq => hu q (List.mem_cons_of_mem _ hq)) h
theorem Sg : ∀ {l : Dq} {t : Nat} {u : Value}, look l t = some u → (t, u) ∈ l
  | [], _, _, h => by cases h
  | p :: r, t, u, h => by
    simp only [look] at h;split at h
    · rename_i hb
      have := Nat.eq_of_beq_eq_true hb;simp only [Option.some.injEq] at h;subst h this;exact List.mem_cons_self
    · exact List.mem_cons_of_mem _ (Sg h)
theorem Iq {ρ : Au} {E : Gb} {t : Nat} {v : V} (hw : WE E) (h : Nx E t = some v) : look (Lu ρ E) t = some (v.den ρ) := by
  have hg := qF hw h;refine Jp (fun p hp ht => ?_) (List.mem_map.2 ⟨(t, v), T.get_mem hg, rfl⟩);obtain ⟨q, hq, rfl⟩ := List.mem_map.1 hp;obtain ⟨k, _, hk⟩ := T.mem_get hq;have hk1 := hw _ _ hk;have hk2 : k = t + 1 := by simp only at ht; omega
  subst hk2;have e : (t, v) = q := Option.some.inj (hg.symm.trans hk);subst e; rfl
theorem WE.put {E : Gb} {t : Nat} {v : V} (hw : WE E) : WE (putV E t v) := fun k p h => by
  unfold putV at h;rw [T.get_set _ _ _ _ z6] at h;split at h
  · cases h; assumption
  · exact hw k p h
theorem WE.leaf : WE T.leaf := fun k p h => by rw [T.get_leaf] at h; cases h
theorem Vr.put {E : Gb} {t n : Nat} {v : V} (h : Vr n E) (hv : v.lt n) : Vr n (putV E t v) := fun p hp => by
  obtain ⟨R, h1, h2⟩ := T.perm_set (t, v) E (t + 1) z6;rcases List.mem_cons.1 (h1.mem_iff.1 hp) with rfl | hp
  · exact hv
  · exact h p (h2.mem_iff.2 (List.mem_append_right _ hp))
theorem Vr.leaf {n : Nat} : Vr n T.leaf := fun p hp => by cases hp
theorem Vr.mono {n m : Nat} (h : n ≤ m) {E : Gb} (hE : Vr n E) : Vr m E := fun p hp => V.lt.mono h _ (hE p hp)
theorem Lv {n : Nat} {ρ σ : Au} (h : Aj n ρ σ) {E : Gb} (hE : Vr n E) : Lu ρ E = Lu σ E :=
  List.map_congr_left fun p hp => by rw [Gw h _ (hE p hp)]
theorem gN {n t : Nat} {v : V} {E : Gb} (hE : Vr n E) (h : Nx E t = some v) : v.lt n := by
  unfold Nx at h;cases hg : E.get (t + 1) with
  | none => rw [hg] at h; simp at h
  | some p => rw [hg] at h; simp only [Iy, Option.some.injEq] at h; subst h; exact hE _ (T.get_mem hg)
theorem Bl.putV {N : Nat} {D : List Deferred} {ρ : Au} {E : Gb} {a : Act} {t : Nat} {v : V} (h : Bl N D (Lu ρ E) a) (hw : WE E) (ht : Nat.blt t N = true) : Bl N D (Lu ρ (Jd.putV E t v)) (a.put (some t) (v.den ρ)) := by
  have h1 := h.put ht (v.den ρ);refine ⟨h1.size, h1.defs, fun s u hu => h1.val s u ?_⟩;obtain ⟨q, hq, e⟩ := List.mem_map.1 (Sg hu);obtain ⟨k, _, hk⟩ := T.mem_get hq;have hks := (hw.put (t := t) (v := v)) _ _ hk;obtain ⟨q1, q2⟩ := q;simp only [Prod.mk.injEq] at e;obtain ⟨rfl, rfl⟩ := e;simp only at hks;subst hks;unfold Jd.putV at hk;rw [T.get_set _ _ _ _ z6] at hk;simp only [look];split at hk
  · rename_i e
    have : q1 = t := by omega
    subst this;cases hk
    simp
  · rename_i e
    have : Nat.beq t q1 = false := by cases hb : Nat.beq t q1 with | true => exact absurd (by have := Nat.eq_of_beq_eq_true hb; omega) e | false => rfl
    rw [this];refine Jp (fun p hp ht => ?_) (List.mem_map.2 ⟨(q1, q2), T.get_mem hk, rfl⟩);obtain ⟨r, hr, rfl⟩ := List.mem_map.1 hp;obtain ⟨k, _, hk'⟩ := T.mem_get hr;have hk1 := hw _ _ hk';have hk2 : k = q1 + 1 := by simp only at ht; omega
    subst hk2;have e : (q1, q2) = r := Option.some.inj (hk.symm.trans hk');subst e; rfl

noncomputable def Fg (E : Gb) (x : Operand) : Option V := Operand.casesOn x (fun t => Nx E t) (fun v => some (.raw v)) (fun g => some (.raw (.pointer (some ⟨g, 0, none⟩)))) (fun f => some (.fn f [] []))
theorem kQ {ρ : Au} {E : Gb} (hw : WE E) {x : Operand} {v : V} (h : Fg E x = some v) : ev (Lu ρ E) x = some (v.den ρ) := by
  cases x with
  | tmp t => exact Iq hw h
  | const u => simp only [Fg, Option.some.injEq] at h; subst h; rfl
  | global g => simp only [Fg, Option.some.injEq] at h; subst h; rfl
  | func f => simp only [Fg, Option.some.injEq] at h; subst h; rfl
theorem tZ {n : Nat} {E : Gb} (hE : Vr n E) {x : Operand} {v : V} (h : Fg E x = some v) : v.lt n := by
  cases x with
  | tmp t => exact gN hE h
  | const u => simp only [Fg, Option.some.injEq] at h; subst h; simp [V.lt]
  | global g => simp only [Fg, Option.some.injEq] at h; subst h; simp [V.lt]
  | func f => simp only [Fg, Option.some.injEq] at h; subst h; simp [V.lt, Dh]
noncomputable def Mx (E : Gb) (l : List Operand) : Option (List V) := Fy l (some []) fun x _ ih => Af (Fg E x) fun v => Af ih fun l => some (v :: l)
theorem gO (E : Gb) : Mx E [] = some [] := rfl
theorem aG {E : Gb} {x : Operand} {r : List Operand} {k : List V} : Mx E (x :: r) = some k ↔ ∃ v, Fg E x = some v ∧ ∃ l, Mx E r = some l ∧ v :: l = k := by
  show Af (Fg E x) (fun v => Af (Mx E r) fun l => some (v :: l)) = some k ↔ _
  simp only [Ab, Option.some.injEq]
theorem cU {ρ : Au} {E : Gb} (hw : WE E) : ∀ {l : List Operand} {k : List V}, Mx E l = some k → evs (Lu ρ E) l = some (Ac ρ k)
  | [], k, h => by rw [gO, Option.some.injEq] at h; subst h; rfl
  | x :: r, k, h => by
    obtain ⟨v, hv, l, hl, rfl⟩ := aG.1 h;simp only [evs, kQ hw hv, cU hw hl, Ac]
theorem Jq {n : Nat} {E : Gb} (hE : Vr n E) : ∀ {l : List Operand} {k : List V}, Mx E l = some k → Dh n k
  | [], k, h => by rw [gO, Option.some.injEq] at h; subst h; simp [Dh]
  | x :: r, k, h => by
    obtain ⟨v, hv, l, hl, rfl⟩ := aG.1 h;exact ⟨tZ hE hv, Jq hE hl⟩
end Go.Proofs.YtbooaoddioibeaaGreatDoor.Jd

namespace Go.Proofs.YtbooaoddioibeaaGreatDoor.Jd
open Go.Proofs.Tryz
open Go.Proofs
open Go.RowKit (Below)
set_option linter.unusedVariables false
set_option linter.unusedSimpArgs false

inductive O where
  | cells (l : List V) (t : TypeId) (f : Nat × Nat)
  | own (t k : Nat) (xs : List (List V))
  | map (es : List (V × V × Nat)) (ck : Nat)
  | loop (N : Nat) (E : Gb) (ps : List Tmp) (assign body : Code) (st : LoopState) (j : Option Code)
  | mark
  | str (b : ByteArray) (pos : Nat)
  | mit (i : Nat) (since : Nat) (seen : List Nat) (last : Nat)
  | fifo (cap : Nat) (q : List Pc)
  | dead
def Ue (k : Nat) (l : List Value) : List Value := if l.length = k ∧ Bn l = true then l else List.replicate k (.bool false)
theorem Sh {k : Nat} {l : List Value} (h : l.length = k) (h1 : Bn l = true) : Ue k l = l := by simp [Ue, h, h1]
theorem gP (n : Nat) : Bn (List.replicate n (.bool false)) = true := by
  induction n with
  | zero => rfl
  | succ n ih => simp only [List.replicate_succ, Bn, ih, Bool.and_true]; rfl
theorem Wb {k : Nat} (h : 0 < k) : Eb (Ue k) k := by
  refine ⟨h, fun x => ?_, fun x => ?_⟩
  · unfold Ue; split
    · rename_i hx; exact hx.1
    · simp
  · unfold Ue; split
    · rename_i hx; exact hx.2
    · exact gP k
/-- A queue of bytes: a slice of them, where it begins, how many there are. -/
structure cV (cap : Nat) (q : List UInt8) (a : Nat) (B : Ad) : Prop where
  ex : ∃ (xa : Option Addr) (xc : Nat) (B1 : Ad) (xs : List Int) (frm : Nat), B = (a, .cells [.slice xa cap xc, .int .i64 ((frm : Nat) : Int), .int .i64 ((q.length : Nat) : Int)].toArray 148) :: B1 ∧ Bg Er 1 5 xa xc B1 xs ∧
    xs.length = cap ∧ frm < cap ∧ q.length ≤ cap ∧ cap ≤ 4096 ∧ ∀ i, i < q.length → xs.getD ((frm + i) % cap) default = ((q.getD i default).toNat : Int)
def Bo (ρ : Au) (e : V × V × Nat) : MapEntry := MapEntry.mk (e.1.den ρ) (e.2.1.den ρ) e.2.2
def O.is (ρ : Au) (i : Nat) : O → Ad → Prop
  | .cells l t f, B => B = [(ρ.blk i, .cells (Ac ρ l).toArray t f)]
  | .own t k xs, B => 0 < k ∧ (∀ x ∈ xs, x.length = k ∧ Bn (Ac ρ x) = true) ∧ Bg (Ue k) k t (ρ.own i).1 (ρ.own i).2 B (xs.map (Ac ρ))
  | .map es ck, B => B = [(ρ.blk i, .map (es.map (Bo ρ)).toArray ck)]
  | .loop N E ps asg bo st j, B => (Nm N (Lu ρ E) ps.toArray asg bo (ρ.lp i) ∧ WE E) ∧ B = [(ρ.blk i, Cu (ρ.lp i) st j)]
  | .mark, B => B = [(ρ.blk i, .deferred (some []))]
  | .str b p, B => B = [(ρ.blk i, .stringIter b p)]
  | .mit m since seen last, B => B = [(ρ.blk i, .mapIter (some (ρ.blk m)) since seen.toArray last)]
  | .fifo cap q, B => cV cap (Aq ρ.iv ρ.sv q) (ρ.blk i) B
  | .dead, B => B = []
def O.lt (n : Nat) : O → Prop
  | .cells l _ _ => Dh n l
  | .own _ _ xs => ∀ x ∈ xs, Dh n x
  | .map es _ => ∀ e ∈ es, e.1.lt n ∧ e.2.1.lt n
  | .loop _ E _ _ _ _ _ => Vr n E
  | .mit m _ _ _ => m < n
  | _ => True
theorem O.is_agree {n : Nat} {ρ σ : Au} (h : Aj n ρ σ) {i : Nat} (hi : i < n) : ∀ {o : O} {B : Ad}, o.lt n → o.is ρ i B → o.is σ i B
  | .cells l t f, B, ho, hk => by simp only [O.is, O.lt] at *; rw [← h.blk i hi, ← Cf h l ho]; exact hk
  | .own t k xs, B, ho, hk => by
    simp only [O.is, O.lt] at *;rw [← h.own i hi];have e : xs.map (Ac σ) = xs.map (Ac ρ) := List.map_congr_left fun x hx => (Cf h x (ho x hx)).symm
    rw [e];exact ⟨hk.1, fun x hx => by rw [← Cf h x (ho x hx)]; exact hk.2.1 x hx, hk.2.2⟩
  | .map es ck, B, ho, hk => by
    simp only [O.is, O.lt] at *;have e : es.map (Bo σ) = es.map (Bo ρ) := List.map_congr_left fun e he => by simp only [Bo]; rw [Gw h _ (ho e he).1, Gw h _ (ho e he).2]
    rw [e, ← h.blk i hi]; exact hk
  | .loop .., B, ho, hk => by simp only [O.is, O.lt] at *; rw [← Lv h ho, ← h.lp i hi, ← h.blk i hi]; exact hk
  | .mark, B, ho, hk => by simp only [O.is] at *; rw [← h.blk i hi]; exact hk
  | .str b p, B, ho, hk => by simp only [O.is] at *; rw [← h.blk i hi]; exact hk
  | .mit m _ _ _, B, ho, hk => by simp only [O.is, O.lt] at *; rw [← h.blk i hi, ← h.blk m ho]; exact hk
  | .fifo c q, B, ho, hk => by simp only [O.is] at *; rw [← h.blk i hi, ← h.iv, ← h.sv]; exact hk
  | .dead, B, ho, hk => hk
theorem Aj.symm {n : Nat} {ρ σ : Au} (h : Aj n ρ σ) : Aj n σ ρ := ⟨fun i hi => (h.blk i hi).symm, fun i hi => (h.own i hi).symm, fun i hi => (h.lp i hi).symm, h.iv.symm, h.sv.symm⟩
theorem O.lt.mono {n m : Nat} (h : n ≤ m) : ∀ {o : O}, o.lt n → o.lt m
  | .cells l t f, ho => Dh.mono h l ho
  | .own t k xs, ho => fun x hx => Dh.mono h x (ho x hx)
  | .map es ck, ho => fun e he => ⟨V.lt.mono h _ (ho e he).1, V.lt.mono h _ (ho e he).2⟩
  | .loop .., ho => Vr.mono h ho
  | .mit m _ _ _, ho => Nat.lt_of_lt_of_le ho h
  | .mark, ho | .str _ _, ho | .fifo _ _, ho | .dead, ho => trivial
def Au.upd (ρ : Au) (n : Nat) (b : Nat) (w : Option Addr × Nat) (l : Loop) : Au :=
  { ρ with blk := fun i => if i = n then b else ρ.blk i, own := fun i => if i = n then w else ρ.own i, lp := fun i => if i = n then l else ρ.lp i }
theorem Au.agree_upd (ρ : Au) (n b : Nat) (w : Option Addr × Nat) (l : Loop) : Aj n ρ (ρ.upd n b w l) :=
  ⟨fun i hi => by simp [Au.upd, show i ≠ n by omega], fun i hi => by simp [Au.upd, show i ≠ n by omega], fun i hi => by simp [Au.upd, show i ≠ n by omega], rfl, rfl⟩

abbrev Hp := T (Nat × O)
inductive Na (ρ : Au) : List (Nat × O) → Ad → Prop
  | nil : Na ρ [] []
  | cons {p : Nat × O} {l : List (Nat × O)} {B L : Ad} (h : p.2.is ρ p.1 B) (hl : Na ρ l L) : Na ρ (p :: l) (B ++ L)
theorem Na.perm {ρ : Au} {l l' : List (Nat × O)} (p : List.Perm l l') : ∀ {L : Ad}, Na ρ l L → ∃ L', Na ρ l' L' ∧ List.Perm L L' := by
  induction p with
  | nil => intro L h; exact ⟨L, h, .refl _⟩
  | cons x _ ih =>
    intro L h;cases h with
    | cons h hl => obtain ⟨L', h1, h2⟩ := ih hl; exact ⟨_, .cons h h1, h2.append_left _⟩
  | swap x y l =>
    intro L h;cases h with
    | cons h hl =>
      cases hl with
      | @cons _ _ B2 L2 h2 hl2 =>
        refine ⟨_, .cons h2 (.cons h hl2), ?_⟩;rw [← List.append_assoc, ← List.append_assoc];exact List.perm_append_comm.append_right _
  | trans _ _ ih1 ih2 =>
    intro L h;obtain ⟨L1, h1, p1⟩ := ih1 h;obtain ⟨L2, h2, p2⟩ := ih2 h1;exact ⟨L2, h2, p1.trans p2⟩
theorem Na.agree {n : Nat} {ρ σ : Au} (h : Aj n ρ σ) {l : List (Nat × O)} {L : Ad} (hl : ∀ p ∈ l, p.1 < n ∧ p.2.lt n) (hi : Na ρ l L) : Na σ l L := by
  induction hi with
  | nil => exact .nil
  | cons h1 h2 ih => exact .cons (O.is_agree h (hl _ List.mem_cons_self).1 (hl _ List.mem_cons_self).2 h1) (ih fun q hq => hl q (List.mem_cons_of_mem _ hq))
theorem Na.split {ρ : Au} : ∀ {a b : List (Nat × O)} {L : Ad}, Na ρ (a ++ b) L → ∃ A B, Na ρ a A ∧ Na ρ b B ∧ L = A ++ B
  | [], b, L, h => ⟨[], L, .nil, h, rfl⟩
  | p :: a, b, L, h => by
    cases h with
    | cons h1 h2 => obtain ⟨A, B, h3, h4, rfl⟩ := Na.split h2; exact ⟨_, B, .cons h1 h3, h4, by rw [List.append_assoc]⟩
end Go.Proofs.YtbooaoddioibeaaGreatDoor.Jd

namespace Go.Proofs.YtbooaoddioibeaaGreatDoor.Jd
open Go.Proofs.Tryz
open Go.Proofs
open Go.RowKit (Below)
set_option linter.unusedVariables false
set_option linter.unusedSimpArgs false

noncomputable section
def Lw : List V → Nat → Option V := Bk
def Si (l : List V) : Nat → Nat → Option (List V) :=
  List.rec (motive := fun _ => Nat → Nat → Option (List V)) (fun _ n => Be (Nat.beq n 0) (some []) none)
    (fun v _ ih k n => Be (Nat.beq n 0) (some []) (Be (Nat.beq k 0) (Af (ih 0 (Nat.sub n 1)) fun l => some (v :: l)) (ih (Nat.sub k 1) n))) l
def Ny (l : List V) : Nat → List V → Option (List V) :=
  List.rec (motive := fun _ => Nat → List V → Option (List V)) (fun n us => Fy us (Be (Nat.beq n 0) (some []) none) fun _ _ _ => none)
    (fun v r ih n us => Fy us (Be (Nat.beq n 0) (some (v :: r)) (Be (Nat.ble n (r.length + 1)) (some (v :: r)) none)) fun u us' _ => Be (Nat.beq n 0) (Af (ih 0 us') fun l => some (u :: l)) (Af (ih (Nat.sub n 1) us) fun l => some (v :: l))) l
def R5 (a b : List V) : List V := Fy a b fun v _ ih => v :: ih
def Aw (l : List (List V)) : List V := Fy l [] fun x _ ih => R5 x ih
def Xp (k : Nat) (n : Nat) : List V → Option (List (List V)) :=
  Q8 n (fun l => Fy l (some []) fun _ _ _ => none) (fun _ ih l => Af (Si l 0 k) fun x => Af (ih (l.drop k)) fun r => some (x :: r))
def kR : V → Bool
  | .raw x => x.oneCell'
  | .agg _ => false
  | .tup _ => false
  | _ => true
def Ey (l : List V) : Bool := Fy l true fun v _ ih => Be (kR v) ih false
def uA : Value → Option Nat
  | .int _ (.ofNat n) => some n
  | _ => none
def cW (b : Bool) : Option Unit := match b with
  | true => some ()
  | false => none

/-- A call that was reckoned by itself: arguments, blocks ahead; the answer, blocks behind (r: their numbers in the run). -/
structure Ii where
  args : List V
  n0 : Nat
  pre : List (Nat × O)
  v : V
  n1 : Nat
  post : List (Nat × O)
  r : List (Nat × Nat)
/-- What is known of a callee that is not walked. -/
inductive Hk where
  | join | fNew | fLen | fRoom | fPush | fPeek | fPop | fClear
  | txt (f : List UInt8 → List UInt8)
  | tab (l : List Ii)
structure Dr where
  P : Program
  /-- Package variables: their block's number and cells. -/
  G : List (Nat × List V)
  B : Bd
  hk : List (Nat × Hk)
  /-- Callees that change nothing, whatever order they go in. -/
  pure : List Nat
abbrev RE := Nat × Nat × Nat
def Ja (r w : RE) : Bool := Be (Nat.beq r.1 w.1) (Be (Nat.beq r.2.2 0) false (Be (Nat.beq w.2.2 0) false (Be (Nat.ble r.2.2 w.2.1) true (Nat.ble w.2.2 r.2.1)))) true
structure St where
  n : Nat
  H : Hp
  N : Nat
  E : Gb
  /-- The marks of ranges over functions. -/
  ms : List Nat
  /-- In a round of a range over a function. -/
  rd : Bool
  /-- Of the blocks below lo those that were written. -/
  lo : Nat
  wr : List RE
def St.put (s : St) (d : Nat) (v : V) : Option St := Be (Nat.blt d s.N) (some { s with E := putV s.E d v }) none
def St.puto (s : St) (d : Option Nat) (v : V) : Option St := sB d (some s) fun d => s.put d v
def St.blk (s : St) (i : Nat) : Option O := Af (s.H.get (i + 1)) fun p => some p.2
def St.new (s : St) (o : O) : Option St := some { s with n := s.n + 1, H := s.H.set (s.n, o) (s.n + 1) }
def Cm (lo : Nat) (r : RE) (wr : List RE) : List RE := Be (Nat.blt r.1 lo) (r :: wr) wr
def St.wrt (s : St) (i : Nat) (o : O) : Option St := some { s with H := s.H.set (i, o) (i + 1), wr := Cm s.lo (i, 0, 0) s.wr }
def St.wrc (s : St) (i k n : Nat) (o : O) : Option St := some { s with H := s.H.set (i, o) (i + 1), wr := Cm s.lo (i, k, k + n) s.wr }
def St.kill1 (s : St) (i : Nat) : Option St := match s.blk i with
  | some .mark => s.wrt i .dead
  | _ => none
def St.kill (s : St) (l : List Nat) : Option St := Fy l (fun s => some s) (fun i _ ih s => Af (s.kill1 i) ih) s
section
variable (c : Dr)
def Ij (t : TypeId) : Option TypeDesc := Eu c.P (underlying t)
def Ik (t : TypeId) : Option Nat := Eu c.P (sizeOf t)
def AF3 (t : TypeId) : Option Bool := Eu c.P (isAgg t)
def Qg (t : TypeId) : Option Value := Eu c.P (zeroValue t)
def Br (t : TypeId) : Option TypeId := match Ij c t with
  | some (.slice e) => some e
  | _ => none
def aH (t : TypeId) : Option (Nat × TypeId) := match Ij c t with
  | some (.array n e) => some (n, e)
  | _ => none
def Sj (t : TypeId) : Option (Array Field) := match Ij c t with
  | some (.struct f) => some f
  | _ => none
def Vg (t : TypeId) : Option (TypeId × TypeId) := match Ij c t with
  | some (.map k e) => some (k, e)
  | _ => none
def Jr (t : TypeId) : Option Unit := match Ij c t with
  | some .string => some ()
  | _ => none
def qG (t : TypeId) : Option Unit := match Ij c t with
  | some (.int .u8) => some ()
  | _ => none
def Ic (t : TypeId) (l : List V) (o : Nat) : Option V := match AF3 c t with
  | some false => Lw l o
  | some true => Af (Ik c t) fun k => Af (Si l o k) fun cs => some (.agg cs)
  | none => none
def uB (g : Nat) (l : List (Nat × List V)) : Option (List V) := Fy l none fun p _ ih => Be (Nat.beq p.1 g) (some p.2) ih
def Nz (s : St) : V → Option (List V × Nat × Option (Nat × Bool))
  | .ptr i o => match s.blk i with
    | some (.cells l _ _) => some (l, o, some (i, true))
    | _ => none
  | .optr i o => match s.blk i with
    | some (.own _ _ xs) => some (Aw xs, o, some (i, false))
    | _ => none
  | .raw (.pointer (some ⟨g, o, none⟩)) => Af (uB g c.G) fun l => some (l, o, none)
  | _ => none
def gQ (v : V) : Nat := Be (Nat.beq (Ap v).length 0) 1 (Ap v).length
def qH (o n : Nat) : Option (Nat × Bool) → List RE
  | none => []
  | some (i, true) => [(i, o, o + n)]
  | some (i, false) => [(i, 0, 0)]
def cX (st f : Nat) : Option (Nat × TypeId) := Af (Sj c st) fun fs => match fs[f]? with
  | some fd => Af (Ik c fd.type) fun k => match k with
    | 0 => none
    | _ + 1 => some (fd.offset, fd.type)
  | none => none

def Mu (k : IntKind) : Nat := IntKind.casesOn k 0 1 2 3 4 5 6 7
def C3 (a b : Int) : Bool := Int.casesOn a (fun m => Int.casesOn b (fun n => Nat.blt m n) (fun _ => false)) (fun m => Int.casesOn b (fun _ => true) (fun n => Nat.blt n m))
def eqI (a b : Int) : Bool := Int.casesOn a (fun m => Int.casesOn b (fun n => Nat.beq m n) (fun _ => false)) (fun m => Int.casesOn b (fun _ => false) (fun n => Nat.beq m n))
def Dx (k : IntKind) (a : Int) : Option Nat := Int.casesOn a (fun m => Be (Nat.blt m (IntKind.casesOn k 128 32768 2147483648 9223372036854775808 256 65536 4294967296 18446744073709551616)) (some m) none) (fun _ => none)
def M5 (k : IntKind) (r : Int) : Option Int := IntKind.casesOn k none none none
  (Int.casesOn r (fun m => Be (Nat.blt m 9223372036854775808) (some (.ofNat m)) none) (fun m => Be (Nat.blt m 9223372036854775808) (some (.negSucc m)) none))
  (Int.casesOn r (fun m => some (.ofNat (Nat.mod m 256))) (fun _ => none)) none
  (Int.casesOn r (fun m => some (.ofNat (Nat.mod m 4294967296))) (fun _ => none))
  (Int.casesOn r (fun m => some (.ofNat (Nat.mod m 18446744073709551616))) (fun _ => none))
def uC (b : Int) : Option Nat := Int.casesOn b (fun m => Be (Nat.blt m 64) (some m) none) (fun _ => none)
def qI (k : IntKind) (r : Int) : Option Value := Af (M5 k r) fun r => some (.int k r)
def R6 (f : Nat → Nat → Nat) (k : IntKind) (a b : Int) : Option Value := Af (Dx k a) fun a => Af (Dx k b) fun b => some (.int k (.ofNat (f a b)))
def AF5 (f : Nat → Nat → Nat) (k : IntKind) (a b : Int) : Option Value := Af (Dx k a) fun a => Af (Dx k b) fun b => Be (Nat.beq b 0) none (some (.int k (.ofNat (f a b))))
def gR (op : BinOp) : IntKind → Int → Int → Option Value := BinOp.casesOn op
  (fun k a b => qI k (Int.add a b)) (fun k a b => qI k (Int.sub a b)) (fun k a b => qI k (Int.mul a b)) (AF5 Nat.div) (AF5 Nat.mod)
  (R6 Nat.land) (R6 Nat.lor) (R6 Nat.xor)
  (fun k a b => Af (Dx k a) fun a => Af (uC b) fun b => qI k (.ofNat (Nat.shiftLeft a b)))
  (fun k a b => Af (Dx k a) fun a => Af (uC b) fun b => some (.int k (.ofNat (Nat.shiftRight a b))))
  (fun _ _ _ => none)
  (fun _ a b => some (.bool (eqI a b))) (fun _ a b => some (.bool (not (eqI a b)))) (fun _ a b => some (.bool (C3 a b))) (fun _ a b => some (.bool (not (C3 b a)))) (fun _ a b => some (.bool (C3 b a))) (fun _ a b => some (.bool (not (C3 a b))))
def cY (op : BinOp) : Bool := BinOp.casesOn op false false false false false false false false true true false false false false false false false
def uD (op : BinOp) (a b : V) : Option Value :=
  V.casesOn a (fun x => Value.casesOn x (fun _ => none) (fun k a => V.casesOn b (fun y => Value.casesOn y (fun _ => none) (fun j b => Be (cY op) (gR op k a b) (Be (Nat.beq (Mu k) (Mu j)) (gR op k a b) none))
    (fun _ _ => none) (fun _ _ _ => none) (fun _ => none) (fun _ => none) (fun _ _ _ => none) (fun _ => none) (fun _ => none) (fun _ _ _ => none) none (fun _ _ => none) none (fun _ => none) (fun _ => none))
    (fun _ _ => none) (fun _ _ => none) (fun _ _ _ _ => none) (fun _ _ _ _ _ => none) (fun _ _ _ _ => none) (fun _ => none) (fun _ _ _ => none) (fun _ => none) (fun _ _ => none) (fun _ => none) (fun _ => none) (fun _ _ => none) (fun _ => none))
    (fun _ _ => none) (fun _ _ _ => none) (fun _ => none) (fun _ => none) (fun _ _ _ => none) (fun _ => none) (fun _ => none) (fun _ _ _ => none) none (fun _ _ => none) none (fun _ => none) (fun _ => none))
    (fun _ _ => none) (fun _ _ => none) (fun _ _ _ _ => none) (fun _ _ _ _ _ => none) (fun _ _ _ _ => none) (fun _ => none) (fun _ _ _ => none) (fun _ => none) (fun _ _ => none) (fun _ => none) (fun _ => none) (fun _ _ => none) (fun _ => none)

def Oa : V → Option (IntKind × Lin)
  | .raw (.int k n) => some (k, .const n)
  | .si k e => some (k, e)
  | _ => none
def cZ : V → Option (List Pc)
  | .raw (.string b) => some [.lit b.data.toList]
  | .ss l => some l
  | _ => none
def dA (k : IntKind) (e : Lin) : Bool := match k with
  | .i64 => gL c.B (e.addc 9223372036854775808) && gL c.B ((Lin.const 9223372036854775807).sub e)
  | .u8 => gL c.B e && gL c.B ((Lin.const 255).sub e)
  | _ => false
def nT (k : IntKind) (e : Lin) : V := match e.l with
  | [] => .raw (.int k e.c)
  | _ => .si k e
def Ze (k : IntKind) (e : Lin) : Option V := match dA c k e with
  | true => some (nT k e)
  | false => none
def qJ : Option Bool → Option Bool
  | some b => some (! b)
  | none => none
def Qn : Option Bool → Option V
  | some b => some (.raw (.bool b))
  | none => none
def uE (op : BinOp) (k : IntKind) (a b : Lin) : Option V := match op with
  | .add => Ze c k (a.add b)
  | .sub => Ze c k (a.sub b)
  | .mul => match a.l, b.l with
    | [], _ => Ze c k (b.smul a.c)
    | _, [] => Ze c k (a.smul b.c)
    | _, _ => none
  | .quo => Af (Uc b) fun d => match gL c.B a with
    | true => Af (C2 c.B a d) fun q => Ze c k q.1
    | false => none
  | .rem => Af (Uc b) fun d => match gL c.B a with
    | true => Af (C2 c.B a d) fun q => Ze c k q.2
    | false => none
  | .lss => Qn (ltQ c.B a b)
  | .gtr => Qn (ltQ c.B b a)
  | .leq => Qn (qJ (ltQ c.B b a))
  | .geq => Qn (qJ (ltQ c.B a b))
  | .eql => Qn (eqQ c.B a b)
  | .neq => Qn (qJ (eqQ c.B a b))
  | _ => none
def R7 : Pc → Pc → Bool
  | .lit a, .lit b => a == b
  | .byt a, .byt b => C1 (a.sub b)
  | .var i, .var j => Nat.beq i j
  | _, _ => false
def uF : List Pc → List Pc → Bool
  | [], [] => true
  | p :: r, q :: t => match R7 p q with
    | true => uF r t
    | false => false
  | _, _ => false
def eqT (a b : List Pc) : Option Bool := match uF a b with
  | true => some true
  | false => Af (Nw c.B a) fun m => Af (Nw c.B b) fun n => match eqQ c.B m n with
    | some false => some false
    | _ => none
def kS : Lin := .const 1000000000
def uG (op : BinOp) (a b : List Pc) : Option V := match op with
  | .add => Af (Nw c.B a) fun m => Af (Nw c.B b) fun n => match kO c.B m kS && kO c.B n kS with
    | true => some (.ss (a ++ b))
    | false => none
  | .eql => Qn (eqT c a b)
  | .neq => Qn (qJ (eqT c a b))
  | _ => none
def eqV (s : St) (t : TypeId) (a b : V) : Option (Bool × List RE) := Af (Ij c t) fun d => match d, a, b with
  | .pointer _, .ptr _ _, .raw (.pointer none) => some (false, [])
  | .pointer _, .raw (.pointer none), .ptr _ _ => some (false, [])
  | .interface _, .ifc _ _, .raw .nilIface => some (false, [])
  | .interface _, .raw .nilIface, .ifc _ _ => some (false, [])
  | .func _ _ _, .fn _ _ _, .raw .nilFunc => some (false, [])
  | .slice _, .sl _ _ _ _, .raw (.slice none 0 0) => some (false, [])
  | .slice _, .osl i _ _ _ _, .raw (.slice none 0 0) => match s.blk i with
    | some (.own _ _ (_ :: _)) => some (false, [(i, 0, 0)])
    | _ => none
  | .map _ _, .mp _, .raw (.map none) => some (false, [])
  | _, _, _ => none
def eqN (a b : V) : Option Bool := Af (Oa a) fun p => Af (Oa b) fun q => Be (Nat.beq (Mu p.1) (Mu q.1)) (eqQ c.B p.2 q.2) none
def eqX (a b : V) : Option Bool := Af (cZ a) fun p => Af (cZ b) fun q => eqT c p q
def eqB (a b : V) : Option Bool := match a, b with
  | .raw (.bool x), .raw (.bool y) => some (x == y)
  | _, _ => none
def gS : V → Option (List V)
  | .agg l => some l
  | .raw (.agg l) => some (l.toList.map .raw)
  | _ => none
def uH (e : TypeId → V → V → Option Bool) (p q : List V) (l : List Field) : Option Bool :=
  Fy l (some true) fun f _ ih => Be (f.name == "_") none (Af (Ic c f.type p f.offset) fun x => Af (Ic c f.type q f.offset) fun y => Af (e f.type x y) fun b => Be b ih (some false))
def C4 (f : Nat) : TypeId → V → V → Option Bool :=
  Q8 f (fun _ _ _ => none) fun _ ih t a b => Af (Ij c t) fun d => match d with
    | .int _ => eqN c a b
    | .string => eqX c a b
    | .bool => eqB a b
    | .struct fs => Af (gS a) fun p => Af (gS b) fun q => Af (Eu c.P (do pure ((← program).stoodInHeld t))) fun h => Be h none (uH c ih p q fs.toList)
    | _ => none
def nU (t : TypeId) : Option Unit := Af (Eu c.P (do pure ((← program).eqGuardType (← program).depth t))) fun g => Be g none (some ())
def gT : BinOp → Option Bool
  | .eql => some true
  | .neq => some false
  | _ => none
def uI (e : Bool) : Option Bool → Option (V × List RE)
  | some b => some (.raw (.bool (b == e)), [])
  | none => none
def AF7 (s : St) (op : BinOp) (t : TypeId) (x y : Operand) (a b : V) : Option (V × List RE) := match rawQ a, rawQ b with
  | some u, some v => Af (Eu c.P (do eqGuard op t x y u v; binOp op t u v)) fun r => some (.raw r, [])
  | _, _ => match Oa a, Oa b with
    | some p, some q => match p.1 == q.1 with
      | true => Af (uE c op p.1 p.2 q.2) fun v => some (v, [])
      | false => none
    | _, _ => match cZ a, cZ b with
      | some p, some q => Af (uG c op p q) fun v => some (v, [])
      | _, _ => Af (gT op) fun e => match gS a, gS b with
        | some _, some _ => Af (nU c t) fun _ => uI e (C4 c 5 t a b)
        | _, _ => Af (eqV c s t a b) fun r => some (.raw (.bool (r.1 == e)), r.2)

def AF8 (s : St) (op : BinOp) (t : TypeId) (x y : Operand) (a b : V) : Option (V × List RE) := sB (uD op a b) (AF7 c s op t x y a b) fun r => some (.raw r, [])

def aJ (place : Nat → Option (Nat × Nat)) (cells : List V) (l : List (Nat × V)) : Option (List V) :=
  Fy l (fun cells => some cells) (fun p _ ih cells => Af (place p.1) fun q => Be (Nat.beq (Ap p.2).length q.2) (Af (Ny cells q.1 (Ap p.2)) ih) none) cells
def Xq (E : Gb) (l : List (Nat × Operand)) : Option (List (Nat × V)) := Fy l (some []) fun p _ ih => Af (Fg E p.2) fun v => Af ih fun l => some ((p.1, v) :: l)
def uJ (fields : List Field) : Option (List (Nat × Nat)) := Eu c.P (fields.mapM fun (f : Field) => do pure (f.offset, ← sizeOf f.type))

def Gc (len cap : Nat) (lo hi mx : Option Nat) : Option (Nat × Nat × Nat) :=
  let m := mx.getD cap
  let h := hi.getD len
  let l := lo.getD 0
  match Nat.ble m cap && (Nat.ble h m && Nat.ble l h) with
  | true => some (l, h, m)
  | false => none
def Ke (s : St) : Option Operand → Option (Option Nat)
  | none => some none
  | some x => match Fg s.E x with
    | some (.raw v) => Af (uA v) fun n => some (some n)
    | _ => none
def uK (s : St) (d : Lin) : Option Operand → Option Lin
  | none => some d
  | some x => Af (Fg s.E x) fun v => Af (Oa v) fun p => some p.2

def nV (j : Nat) : Option Nat → Bool
  | none => true
  | some m => Nat.blt j m
def Hy (s : St) (k : Nat) : V → Option (List (List V) × List RE)
  | .raw (.slice none 0 0) => some ([], [])
  | .sl i o n _ => match s.blk i with
    | some (.cells l _ _) => Af (Si l o (n * k)) fun cs => Af (Xp k n cs) fun xs => some (xs, [(i, 0, 0)])
    | _ => none
  | .osl i j k0 n m => match s.blk i with
    | some (.own _ k' xs) => match Nat.beq k k' && (Nat.beq k k0 && (Nat.ble (j + n) xs.length && (Nat.beq n 0 || nV j m))) with
      | true => some ((xs.drop j).take n, [(i, 0, 0)])
      | false => none
    | _ => none
  | .raw (.string b) => match Nat.beq k 1 with
    | true => some (b.data.toList.map (fun x => [.raw (.int .u8 x.toNat)]), [])
    | false => none
  | _ => none
def kT : List V → Option Pc
  | [.raw (.int .u8 (.ofNat n))] => some (.lit [UInt8.ofNat n])
  | [.si .u8 e] => some (.byt e)
  | _ => none
def Sk : List (List V) → Option (List Pc)
  | [] => some []
  | x :: r => Af (kT x) fun p => Af (Sk r) fun l => some (p :: l)
def Qy : List Pc → Option (List UInt8)
  | [] => some []
  | .lit b :: r => Af (Qy r) fun l => some (b ++ l)
  | _ => none
def R8 (l : List Pc) : V := match Qy l with
  | some b => .raw (.string ⟨b.toArray⟩)
  | none => .ss l
def gU : TypeDesc → Bool
  | .int _ => true
  | .string => true
  | .bool => true
  | _ => false
def gV (kd : TypeDesc) (k : Value) : List (V × V × Nat) → Option (Option V)
  | [] => some none
  | e :: es => match e.1 with
    | .raw k' => match Instr.sameNow kd k k' with
      | some true => some (some e.2.1)
      | some false => gV kd k es
      | none => none
    | _ => none
def uL (s : St) : V → Option (List (V × V × Nat) × List RE)
  | .raw (.map none) => some ([], [])
  | .mp i => match s.blk i with
    | some (.map es _) => some (es, [(i, 0, 0)])
    | _ => none
  | _ => none
def M6 (ok : Bool) (v : V) (b : Bool) : V := match ok with
  | true => .tup [v, .raw (.bool b)]
  | false => v

abbrev QR := Option (V × List RE)
def qv (v : V) : QR := some (v, [])
def uM (s : St) (t : TypeId) (x : Operand) : QR :=
  Af (Fg s.E x) fun a => Af (Nz c s a) fun p => Af (Ic c t p.1 p.2.1) fun v => some (v, qH p.2.1 (gQ v) p.2.2)
def R9 (s : St) (x : Operand) : QR := Af (Fg s.E x) fun v => match v with
  | .ptr _ _ => qv v
  | .optr _ _ => qv v
  | .fn _ _ _ => qv v
  | .ifc _ _ => qv v
  | .raw (.pointer (some _)) => qv v
  | .raw (.iface _ _) => qv v
  | _ => none
def uN (s : St) (src dst : TypeId) (x : Operand) : QR := Af (Fg s.E x) fun v => match v with
  | .raw a => Af (Eu c.P (convert src dst a)) fun r => qv (.raw r)
  | .si _ e => Af (Ij c src) fun _ => match Ij c dst with
    | some (.int k) => Af (Ze c k e) fun r => qv r
    | _ => none
  | .ss l => Af (Jr c src) fun _ => Af (Jr c dst) fun _ => qv (.ss l)
  | v => Af (Br c src) fun e => Af (Jr c dst) fun _ => Af (qG c e) fun _ => Af (Hy s 1 v) fun p => Af (Sk p.1) fun l => some (R8 l, p.2)
def kU (s : St) (t : TypeId) (x : Operand) : QR := Af (Fg s.E x) fun v => Af (Ij c t) fun d => match d with
  | .interface _ => none
  | _ => match v with
    | .raw a => qv (.raw (.iface t a))
    | v => qv (.ifc t v)
def uO (s : St) (f : Fn) (first captured : List Operand) : QR := match f with
  | .func f => Af (Mx s.E first) fun a => Af (Mx s.E captured) fun b => qv (.fn f a b)
  | _ => none
def S0 (s : St) (i : Nat) (m : Option Nat) : Option Nat := match s.blk i with
  | some (.own _ _ xs) => match m with
    | none => some xs.length
    | some m => match Nat.ble m xs.length with
      | true => some m
      | false => none
  | _ => none
def S1 : Option Operand → Option Operand → Bool
  | none, some _ => false
  | _, _ => true
def nW (s : St) (t : TypeId) (x : Operand) (lo hi mx : Option Operand) : QR := Af (Fg s.E x) fun v => match v with
  | .raw (.string b) => match mx with
    | none => match Ke s lo, Ke s hi with
      | some l, some h => Af (Jr c t) fun _ => Af (Gc b.size b.size l h none) fun r => qv (.raw (.string (b.extract r.1 r.2.1)))
      | _, _ => none
    | some _ => none
  | .ss p => match mx with
    | none => Af (Jr c t) fun _ => Af (Nw c.B p) fun n => Af (uK s (.const 0) lo) fun l => Af (uK s n hi) fun h => match gL c.B l && kO c.B l h with
      | true => Af (aF c.B p h) fun p1 => Af (Xm c.B p1 l) fun p2 => qv (R8 p2)
      | false => none
    | some _ => none
  | .sl i o n cp => Af (Br c t) fun e => Af (Ik c e) fun k => Af (Ke s lo) fun lo => Af (Ke s hi) fun hi => Af (Ke s mx) fun mx => Af (Gc n cp lo hi mx) fun r =>
    qv (.sl i (match Nat.beq r.2.2 r.1 with | true => o | false => o + r.1 * k) (r.2.1 - r.1) (r.2.2 - r.1))
  | .osl i j k n m0 => Af (Br c t) fun e => Af (Ik c e) fun k' => Af (Ke s lo) fun lo => Af (Ke s hi) fun hi => Af (Ke s mx) fun mx =>
    Af (S0 s i m0) fun top => Af (Gc n (top - j) lo hi (match mx with | none => some (top - j) | m => m)) fun r =>
    match Nat.beq k k' && (Nat.ble j top && (Nat.beq j 0 || Nat.blt r.1 r.2.2)) with
    | true => some (.osl i (j + r.1) k (r.2.1 - r.1) (match mx with | none => m0 | some m => some (j + m)), [(i, 0, 0)])
    | false => match mx, m0 with
      | none, none => match Nat.beq k k' && (Nat.blt j top && Nat.beq r.1 (top - j)) with
        | true => some (.esl i top j k, [(i, 0, 0)])
        | false => none
      | _, _ => none
  | .ptr i o => match Ij c t with
    | some (.array n e) => Af (Ik c e) fun k => Af (Ke s lo) fun lo => Af (Ke s hi) fun hi => Af (Ke s mx) fun mx => Af (Gc n n lo hi mx) fun r =>
      qv (.sl i (match Nat.beq r.2.2 r.1 with | true => o | false => o + r.1 * k) (r.2.1 - r.1) (r.2.2 - r.1))
    | some (.pointer ar) => Af (aH c ar) fun ne => Af (Ik c ne.2) fun k => Af (Ke s lo) fun lo => Af (Ke s hi) fun hi => Af (Ke s mx) fun mx => Af (Gc ne.1 ne.1 lo hi mx) fun r =>
      qv (.sl i (match Nat.beq r.2.2 r.1 with | true => o | false => o + r.1 * k) (r.2.1 - r.1) (r.2.2 - r.1))
    | _ => none
  | .raw (.slice none 0 0) => Af (Br c t) fun e => Af (Ik c e) fun k => Af (Ke s lo) fun lo => Af (Ke s hi) fun hi => Af (Ke s mx) fun mx => Af (Gc 0 0 lo hi mx) fun r => qv (.raw (.slice none 0 0))
  | _ => none
def uP (s : St) (t : TypeId) (x : Operand) (lo hi mx : Option Operand) : QR := Be (S1 hi mx) (nW c s t x lo hi mx) none
def S2 (s : St) (st f : Nat) (x : Operand) : QR := Af (Fg s.E x) fun v => Af (cX c st f) fun k => match v with
  | .ptr i o => qv (.ptr i (o + k.1))
  | .optr i o => qv (.optr i (o + k.1))
  | .raw (.pointer (some ⟨g, o, none⟩)) => qv (.raw (.pointer (some ⟨g, o + k.1, none⟩)))
  | _ => none
def kV (s : St) (t : TypeId) (x : Operand) (f : Nat) : QR := Af (Fg s.E x) fun v => match v with
  | .raw a => Af (Eu c.P (Instr.field t a f)) fun r => qv (.raw r)
  | .agg cs => Af (Sj c t) fun fs => match fs[f]? with
    | some fd => Af (Ic c fd.type cs fd.offset) fun v => qv v
    | none => none
  | _ => none
def uQ (s : St) (t : TypeId) (x ix : Operand) : QR := Af (Fg s.E x) fun a => Af (Fg s.E ix) fun iv => match iv with
  | .raw iv => Af (uA iv) fun m => match a with
    | .sl i o n _ => Af (Br c t) fun e => Af (Ik c e) fun k => match Nat.blt m n with
      | true => qv (.ptr i (o + m * k))
      | false => none
    | .osl i j k0 n m0 => Af (Br c t) fun e => Af (Ik c e) fun k => match s.blk i with
      | some (.own _ k' xs) => match Nat.blt m n && (Nat.ble (j + n) xs.length && (Nat.beq k k' && (Nat.beq k k0 && nV j m0))) with
        | true => some (.optr i ((j + m) * k), [(i, 0, 0)])
        | false => none
      | _ => none
    | .ptr i o => Af (aH c t) fun ne => Af (Ik c ne.2) fun k => match Nat.blt m ne.1 with
      | true => qv (.ptr i (o + m * k))
      | false => none
    | .raw (.pointer (some ⟨g, o, none⟩)) => Af (aH c t) fun ne => Af (Ik c ne.2) fun k => match Nat.blt m ne.1 with
      | true => qv (.raw (.pointer (some ⟨g, o + m * k, none⟩)))
      | false => none
    | _ => none
  | _ => none
def S3 (s : St) (t : TypeId) (x ix : Operand) : QR := Af (Fg s.E x) fun a => Af (Fg s.E ix) fun iv => match a with
  | .raw a => match iv with
    | .raw iv => Af (Eu c.P (Instr.index t a iv)) fun r => qv (.raw r)
    | _ => none
  | .agg cs => match iv with
    | .raw iv => Af (uA iv) fun m => Af (aH c t) fun ne => Af (Ik c ne.2) fun k => match Nat.blt m ne.1 with
      | true => Af (Ic c ne.2 cs (m * k)) fun v => qv v
      | false => none
    | _ => none
  | .ss p => Af (Jr c t) fun _ => Af (Oa iv) fun e => match gL c.B e.2 with
    | true => Af (Xm c.B p e.2) fun r => match r with
      | .lit (b :: _) :: _ => qv (.raw (.int .u8 b.toNat))
      | .byt e :: _ => match dA c .u8 e with
        | true => qv (.si .u8 e)
        | false => none
      | _ => none
    | false => none
  | _ => none
def uR (s : St) (t : TypeId) (x ix : Operand) (ok : Bool) : QR := Af (Fg s.E x) fun a => Af (Fg s.E ix) fun iv => match iv with
  | .raw k => Af (Vg c t) fun ke => Af (Ij c ke.1) fun kd => Af (cW (gU kd)) fun _ => Af (uL s a) fun es => Af (gV kd k es.1) fun r => match r with
    | some v => some (M6 ok v true, es.2)
    | none => Af (Qg c ke.2) fun z => some (M6 ok (.raw z) false, es.2)
  | _ => none
def S4 (s : St) (x : Operand) (i : Nat) : QR := Af (Fg s.E x) fun v => match v with
  | .tup l => Af (Lw l i) fun v => qv v
  | .raw (.tuple l) => match l[i]? with
    | some v => qv (.raw v)
    | none => none
  | _ => none
def kW (s : St) (t : TypeId) (parts : List (Nat × Operand)) : QR := Af (Qg c t) fun z => Af (Xq s.E parts) fun ps => match Ij c t with
  | some (.struct fs) => Af (uJ c fs.toList) fun pl => Af (aJ (Bk pl) (Ap (.raw z)) ps) fun cs => qv (.agg cs)
  | some (.array _ e) => Af (Ik c e) fun k => Af (aJ (fun i => some (i * k, k)) (Ap (.raw z)) ps) fun cs => qv (.agg cs)
  | _ => none
def dB (s : St) (x : Operand) (xT t : TypeId) (ok : Bool) : QR := Af (Fg s.E x) fun v => match v with
  | .raw a => Af (Eu c.P (Instr.typeAssert a xT t ok)) fun r => qv (.raw r)
  | .ifc u v => Af (Ij c t) fun d => match d with
    | .interface want => Af (Eu c.P (do pure (Instr.missingMethod want (← typeInfo u).methods).isNone)) fun b => match b with
      | true => qv (M6 ok (.ifc u v) true)
      | false => match ok with
        | true => Af (Qg c t) fun z => qv (.tup [.raw z, .raw (.bool false)])
        | false => none
    | _ => match Nat.beq u t with
      | true => qv (M6 ok v true)
      | false => match ok with
        | true => Af (Qg c t) fun z => qv (.tup [.raw z, .raw (.bool false)])
        | false => none
  | _ => none
def S5 (s : St) (t : TypeId) (v : V) : QR := match v with
  | .sl _ _ n _ => Af (Br c t) fun _ => qv (.raw (goInt n))
  | .osl _ _ _ n _ => Af (Br c t) fun _ => qv (.raw (goInt n))
  | .esl _ _ _ _ => Af (Br c t) fun _ => qv (.raw (goInt 0))
  | .mp i => Af (Vg c t) fun _ => match s.blk i with
    | some (.map es _) => some (.raw (goInt es.length), [(i, 0, 0)])
    | _ => none
  | .ss p => Af (Jr c t) fun _ => Af (Nw c.B p) fun n => qv (nT .i64 n)
  | .raw a => Af (Eu c.P (Builtin.len_ #[t] 0 #[a])) fun r => qv (.raw r)
  | _ => none
def mm2 (mx : Bool) (a b : Lin) : Option Lin := Be (kO c.B a b) (some (Be mx b a)) (Be (kO c.B b a) (some (Be mx a b)) none)
def mmL (mx : Bool) (k : IntKind) (l : List V) (a : Lin) : Option Lin :=
  Fy l (fun a => some a) (fun v _ ih a => Af (Oa v) fun p => Be (Nat.beq (Mu p.1) (Mu k)) (Af (mm2 c mx a p.2) ih) none) a
def qMM (mx : Bool) : List V → QR
  | [] => none
  | v :: r => Af (Oa v) fun p => Af (mmL c mx p.1 r p.2) fun e => qv (nT p.1 e)
def gW (s : St) (b : Builtin) (args : List Operand) (tys : List TypeId) : QR := Af (Mx s.E args) fun vs => match b with
  | .len => match vs, tys with
    | [v], [t] => S5 c s t v
    | _, _ => none
  | .cap => match vs, tys with
    | [.sl _ _ _ n], [t] => Af (Br c t) fun _ => qv (.raw (goInt n))
    | [.raw a], [t] => Af (Eu c.P (Builtin.cap_ #[t] 0 #[a])) fun r => qv (.raw r)
    | _, _ => none
  | .min => qMM c false vs
  | .max => qMM c true vs
  | _ => none
def nX (b : Nat) : List (V × V × Nat) → Option (V × V)
  | [] => none
  | e :: r => match Nat.beq e.2.2 b with
    | true => some (e.1, e.2.1)
    | false => nX b r
def kX (s : St) (x : Operand) : QR := Af (Fg s.E x) fun v => match v with
  | .ptr i 0 => match s.blk i with
    | some (.mit m _ seen last) => Af seen.getLast? fun b => match s.blk m with
      | some (.map es ck) => match Nat.beq ck last with
        | true => Af (nX b es) fun e => some (.tup [e.1, e.2], [(i, 0, 0), (m, 0, 0)])
        | false => none
      | _ => none
    | _ => none
  | _ => none
def nY (s : St) (x : Operand) : QR := Af (Fg s.E x) fun v => qv v
def uS (s : St) (b x y : Operand) : QR := match Fg s.E b, Fg s.E x, Fg s.E y with
  | some (.raw (.bool b)), some x, some y => qv (match b with | true => x | false => y)
  | _, _, _ => none
def S6 (s : St) (op : BinOp) (t : TypeId) (x y : Operand) : QR := Af (Fg s.E x) fun a => Af (Fg s.E y) fun b => AF8 c s op t x y a b
def qUn (s : St) (op : UnOp) (x : Operand) : QR := match Fg s.E x with
  | some (.raw a) => Af (Eu c.P (Op.unary op a)) fun r => qv (.raw r)
  | _ => none
def kY (s : St) (k : Call) : QR := match k.callee with
  | .builtin b => gW c s b k.args.toList k.argTypes.toList
  | _ => none
def S7 (op : Op) : Dr → St → QR := match op with
  | .move x => fun _ s => nY s x
  | .assign x => fun _ s => nY s x
  | .pick b x y => fun _ s => uS s b x y
  | .load t x => fun c s => uM c s t x
  | .nilCheck x => fun _ s => R9 s x
  | .binOp op t x y _ => fun c s => S6 c s op t x y
  | .unOp op t x => fun c s => qUn c s op x
  | .convert src dst x => fun c s => uN c s src dst x
  | .makeInterface t x => fun c s => kU c s t x
  | .makeFunc f first captured => fun _ s => uO s f first.toList captured.toList
  | .slice t x lo hi mx => fun c s => uP c s t x lo hi mx
  | .fieldAddr st x f => fun c s => S2 c s st f x
  | .field t x f => fun c s => kV c s t x f
  | .indexAddr t x ix => fun c s => uQ c s t x ix
  | .index t x ix => fun c s => S3 c s t x ix
  | .lookup t x ix ok => fun c s => uR c s t x ix ok
  | .extract x i => fun _ s => S4 s x i
  | .build t parts => fun c s => kW c s t parts.toList
  | .typeAssert x xT t ok => fun c s => dB c s x xT t ok
  | .call k => fun c s => kY c s k
  | .entry x => fun _ s => kX s x
  | _ => fun _ _ => none
def qop (s : St) (op : Op) : QR := S7 op c s

def uT (kd : TypeDesc) (k : Value) (v : V) : List (V × V × Nat) → Option (Option (List (V × V × Nat)))
  | [] => some none
  | e :: es => match e.1 with
    | .raw k' => match Instr.sameNow kd k k' with
      | some true => some (some ((.raw k, v, e.2.2) :: es))
      | some false => Af (uT kd k v es) fun r => some (r.map (e :: ·))
      | none => none
    | _ => none
def uU (kd : TypeDesc) (k : Value) : List (V × V × Nat) → Option (List (V × V × Nat))
  | [] => some []
  | e :: es => match e.1 with
    | .raw k' => match Instr.sameNow kd k k' with
      | some true => some es
      | some false => Af (uU kd k es) fun r => some (e :: r)
      | none => none
    | _ => none
abbrev MR := Option (V × St)
def gX (k : Nat) (l : List (List V)) : Bool := Fy l true fun x _ ih => Be (Nat.beq x.length k) (Be (Ey x) ih false) false
def dC (s : St) (e k : Nat) (xs : List (List V)) : MR := match Nat.blt 0 k && gX k xs with
  | true => Af (s.new (.own e k xs)) fun s' => some (.osl s.n 0 k xs.length none, s')
  | false => none
def Kq : V := .raw (.tuple #[])
def kZ (s : St) (k : Nat) (t : Option TypeId) (y : V) : Option (List (List V)) := match t with
  | none => none
  | some t => match Ij c t with
    | some (.slice _) => match y with
      | .raw (.string _) => none
      | y => Af (Hy s k y) fun p => some p.1
    | some .string => match y with
      | .raw (.string b) => Af (Hy s k (.raw (.string b))) fun p => some p.1
      | _ => none
    | _ => none
def S8 (e : TypeId) : Option Nat := Eu c.P (do pure (← typeInfo e).bytes)
def Kr (s : St) (e k by_ : Nat) (xs : List (List V)) : MR := match Nat.ble by_ 1000 && Nat.ble xs.length 1000000 with
  | true => dC s e k xs
  | false => none
def Sm (s : St) (x y : V) (t : TypeId) (t1 : Option TypeId) : MR := Af (Br c t) fun e => Af (Ik c e) fun k => Af (kZ c s k t1 y) fun ys => Af (S8 c e) fun by_ => Af (Qg c e) fun z => match gX k ys && (Nat.beq (Ap (.raw z)).length k && Nat.blt 0 k) with
  | false => none
  | true => match x with
    | .raw (.slice none 0 0) => match ys with
      | [] => some (.raw (.slice none 0 0), s)
      | _ => Kr s e k by_ ys
    | .osl i 0 k0 n none => match s.blk i with
      | some (.own t' k' xs) => match Nat.beq k k' && (Nat.beq k k0 && (Nat.ble n xs.length && Nat.beq t' e)) with
        | true => match Nat.ble (n + ys.length) xs.length with
          | true => Af (Ny (Aw xs) (n * k') (Aw ys)) fun l' => Af (Xp k' xs.length l') fun xs' => Af (s.wrt i (.own t' k' xs')) fun s' => some (.osl i 0 k0 (n + ys.length) none, s')
          | false => Af (s.wrt i .dead) fun s' => Kr s' e k by_ (xs.take n ++ ys)
        | false => none
      | _ => none
    | .sl i o n m => match Nat.beq n m with
      | true => match ys with
        | [] => some (.sl i o n m, s)
        | _ => Af (Hy s k x) fun p => match gX k p.1 with
          | true => Kr s e k by_ (p.1 ++ ys)
          | false => none
      | false => match Nat.ble (n + ys.length) m, s.blk i with
        | true, some (.cells l t f) => match Nat.beq f.2 0 with
          | true => Af (Ny l (o + n * k) (Aw ys)) fun l' => Af (s.wrt i (.cells l' t f)) fun s' => some (.sl i o (n + ys.length) m, s')
          | false => none
        | _, _ => none
    | _ => none
def Xr (s : St) (t t1 : TypeId) (n : Nat) : MR := Af (Br c t) fun e => Af (Ik c e) fun k => Af (S8 c e) fun by_ => Af (Qg c e) fun z => match Ij c t1 with
  | some (.int _) => match Nat.beq (Ap (.raw z)).length k && Nat.blt 0 n with
    | true => Kr s e k by_ (List.replicate n (Ap (.raw z)))
    | false => none
  | _ => none
def Ob (s : St) (x y : V) (t : TypeId) (r : List TypeId) : MR := match x, y, r with
  | .raw (.slice none 0 0), .raw (.int .i64 (.ofNat n)), [t1] => Xr c s t t1 n
  | x, y, r => Sm c s x y t r.head?
def gY (s : St) (x y : V) (t : TypeId) : MR := Af (Br c t) fun e => Af (Ik c e) fun k => Af (Hy s k y) fun p => match gX k p.1 && Nat.blt 0 k with
  | false => none
  | true => match x with
    | .sl i o n _ => match s.blk i with
      | some (.cells l t f) => match Nat.beq f.2 0 with
        | true => Af (Ny l o (Aw (p.1.take n))) fun l' => Af (s.wrt i (.cells l' t f)) fun s' => some (.raw (goInt (Nat.min p.1.length n)), s')
        | false => none
      | _ => none
    | .raw (.slice none 0 0) => some (.raw (goInt 0), s)
    | _ => none
def uV (s : St) (t : TypeId) (m k v : V) : Option St := match m, k with
  | .mp i, .raw k => Af (Vg c t) fun ke => Af (Ij c ke.1) fun kd => Af (cW (gU kd)) fun _ => match s.blk i with
    | some (.map es ck) => Af (uT kd k v es) fun r => match r with
      | some es' => s.wrt i (.map es' ck)
      | none => s.wrt i (.map (es ++ [(.raw k, v, ck)]) (ck + 1))
    | _ => none
  | _, _ => none
def Sn (s : St) (t : TypeId) (m k : V) : MR := match m, k with
  | .mp i, .raw k => Af (Vg c t) fun ke => Af (Ij c ke.1) fun kd => Af (cW (gU kd)) fun _ => match s.blk i with
    | some (.map es ck) => Af (uU kd k es) fun es' => Af (s.wrt i (.map es' ck)) fun s' => some (Kq, s')
    | _ => none
  | _, _ => none
def Xs (s : St) (t : TypeId) (x y : Operand) : Option St := Af (Fg s.E x) fun a => Af (Fg s.E y) fun v => Af (Ik c t) fun k => match Nat.beq (Ap v).length k && Ey (Ap v) with
  | false => none
  | true => match a with
    | .ptr i o => match s.blk i with
      | some (.cells l t f) => match Nat.beq f.2 0 with
        | true => Af (Ny l o (Ap v)) fun l' => s.wrc i o k (.cells l' t f)
        | false => none
      | _ => none
    | .optr i o => match s.blk i with
      | some (.own t k' xs) => Af (Ny (Aw xs) o (Ap v)) fun l' => Af (Xp k' xs.length l') fun xs' => s.wrt i (.own t k' xs')
      | _ => none
    | _ => none
def S9 (s : St) (op : Op) : Option (O × (Nat → V)) := match op with
  | .alloc t => Af (Qg c t) fun z => some (.cells (Ap (.raw z)) t (0, 0), fun n => .ptr n 0)
  | .box t x => Af (Fg s.E x) fun v => some (.cells (Ap v) t (0, 0), fun n => .ptr n 0)
  | .buildSlice t len parts => Af (Br c t) fun e => Af (Ik c e) fun k => Af (Qg c e) fun z => Af (Xq s.E parts.toList) fun ps => match Nat.ble (len * k) 100000 && Nat.beq (Ap (.raw z)).length k with
    | true => Af (aJ (fun i => some (i * k, k)) (Aw (List.replicate len (Ap (.raw z)))) ps) fun cs => some (.cells cs e (0, 0), fun n => .sl n 0 len len)
    | false => none
  | .makeMap t none => some (.map [] 0, fun n => .mp n)
  | .makeSlice t l cp => Af (Fg s.E l) fun l => Af (Fg s.E cp) fun cp => match l, cp with
    | .raw (.int .i64 (.ofNat n)), .raw (.int .i64 (.ofNat m)) => Af (Br c t) fun e => Af (Ik c e) fun k => Af (Qg c e) fun z => Af (Eu c.P (do pure (← typeInfo e).bytes)) fun by_ =>
      match Nat.ble n m && (Nat.ble m 100000 && (Nat.ble by_ 100000 && Nat.beq (Ap (.raw z)).length k)) with
      | true => some (.cells (Aw (List.replicate m (Ap (.raw z)))) e (0, 0), fun b => .sl b 0 n m)
      | false => none
    | _, _ => none
  | _ => none
def qK (s : St) (op : Op) : Option (Option V × St) := match op with
  | .convert src dst x => Af (Fg s.E x) fun v => match v with
    | .raw (.string b) => Af (Jr c src) fun _ => Af (Br c dst) fun e => Af (qG c e) fun _ => Af (dC s e 1 (b.data.toList.map fun x => [.raw (.int .u8 x.toNat)])) fun p => some (some p.1, p.2)
    | _ => none
  | .store t x y => Af (Xs c s t x y) fun s' => some (none, s')
  | .mapUpdate t m k x | .insert t m k x => Af (Fg s.E m) fun m => Af (Fg s.E k) fun k => Af (Fg s.E x) fun x => Af (uV c s t m k x) fun s' => some (none, s')
  | .call ⟨.builtin b, args, tys⟩ => Af (Mx s.E args.toList) fun vs => match b, vs, tys.toList with
    | .append, [x, y], t :: r => Af (Ob c s x y t r) fun p => some (some p.1, p.2)
    | .copy, [x, y], t :: _ => Af (gY c s x y t) fun p => some (some p.1, p.2)
    | .delete, [x, y], t :: _ => Af (Sn c s t x y) fun p => some (some p.1, p.2)
    | .clear, [.raw (.slice none _ _)], t :: _ => Af (Br c t) fun _ => some (some Kq, s)
    | .clear, [.sl _ _ 0 _], t :: _ => Af (Br c t) fun _ => some (some Kq, s)
    | .clear, [.osl _ _ _ 0 _], t :: _ => Af (Br c t) fun _ => some (some Kq, s)
    | .clear, [.osl i 0 k0 n none], t :: _ => Af (Br c t) fun e => Af (Qg c e) fun z => match s.blk i with
      | some (.own t' k xs) => match Nat.beq k k0 && (Nat.beq (Ap (.raw z)).length k && Ey (Ap (.raw z))) with
        | true => Af (Ny (Aw xs) 0 (Aw (List.replicate n (Ap (.raw z))))) fun l' => Af (Xp k xs.length l') fun xs' => Af (s.wrt i (.own t' k xs')) fun s' => some (some Kq, s')
        | false => none
      | _ => none
    | _, _, _ => none
  | .range t x => Af (Fg s.E x) fun v => match v with
    | .raw (.string b) => Af (Jr c t) fun _ => Af (s.new (.str b 0)) fun s' => some (some (.ptr s.n 0), s')
    | .mp i => Af (Vg c t) fun _ => match s.blk i with
      | some (.map es ck) => Af (s.new (.mit i ck [] ck)) fun s' => some (some (.ptr s.n 0), s')
      | _ => none
    | _ => none
  | .next x true => Af (Fg s.E x) fun v => match v with
    | .ptr i 0 => match s.blk i with
      | some (.str b pos) => match Nat.blt pos b.size with
        | true => Af (s.wrt i (.str b (pos + (Utf8.decode b pos).2))) fun s' => some (some (.raw (.tuple #[.bool true, goInt pos, .int .i32 (Utf8.decode b pos).1])), s')
        | false => some (some (.raw (.tuple #[.bool false])), s)
      | _ => none
    | _ => none
  | _ => none
def mop (s : St) (op : Op) : Option (Option V × St) := sB (S9 c s op) (qK c s op) fun p => Af (s.new p.1) fun s' => some (some (p.2 s.n), s')
def Oc (s : St) (i m since : Nat) (seen : List Nat) (last : Nat) : List (V × V × Nat) → Option (List (V × St))
  | [] => some []
  | e :: r => Af (s.wrt i (.mit m since (seen ++ [e.2.2]) last)) fun s' => Af (Oc s i m since seen last r) fun l => some ((.tup [.raw (.bool true), e.1, e.2.1], s') :: l)
def gZ (s : St) (x : Operand) : Option (List (V × St)) := Af (Fg s.E x) fun v => match v with
  | .ptr i 0 => match s.blk i with
    | some (.mit m since seen last) => match s.blk m with
      | some (.map es ck) => match Nat.beq ck since && (Nat.beq ck last && es.all fun e => Nat.blt e.2.2 since) with
        | true => match es.filter fun e => ! seen.contains e.2.2 with
          | [] => some [(.raw (.tuple #[.bool false]), s)]
          | l => Oc s i m since seen last l
        | false => none
      | _ => none
    | _ => none
  | _ => none

def uW (a : V) (k : Nat) : Option V := match a with
  | .ptr i o => some (.ptr i (o + k))
  | .optr i o => some (.optr i (o + k))
  | _ => none
def hX (s : St) (t : TypeId) (x : V × Bool) : Option V := match x.2 with
  | false => some x.1
  | true => Af (Nz c s x.1) fun p => Ic c t p.1 p.2.1
def Pn (s : St) : List FieldStep → TypeId → V × Bool → Option (TypeId × (V × Bool))
  | [], t, x => some (t, x)
  | p :: r, t, x => Af (cX c p.struct p.index) fun f => match p.deref with
    | true => Af (hX c s t x) fun a => Af (uW a f.1) fun b => Pn s r f.2 (b, true)
    | false => match x.2 with
      | true => Af (uW x.1 f.1) fun b => Pn s r f.2 (b, true)
      | false => none
def iA (s : St) (t : TypeId) (v : V) (m : String) : Option (Nat × V) := Af (Eu c.P (typeInfo t)) fun i => match i.methods.find? (·.name == m) with
  | some r => Af (Pn c s r.path.toList t (v, false)) fun xx => match r.func with
    | some (f, ptr) => Af (Ij c xx.1) fun d => match ptr with
      | true => match d with
        | .pointer _ => Af (hX c s xx.1 xx.2) fun u => some (f, u)
        | _ => match xx.2.2 with
          | true => some (f, xx.2.1)
          | false => none
      | false => match d with
        | .pointer e => Af (hX c s xx.1 xx.2) fun a => Af (hX c s e (a, true)) fun u => some (f, u)
        | _ => Af (hX c s xx.1 xx.2) fun u => some (f, u)
    | none => none
  | none => none
/-- What is called: a function of the program's, at these arguments; or a loop's yield. -/
inductive Cal where
  | fn (f : Nat) (args : List V)
  | yl (i : Nat) (args : List V)
def uX (s : St) (k : Call) : Option Cal := match k.callee with
  | .value f => Af (Fg s.E f) fun f => Af (Mx s.E k.args.toList) fun vs => match f with
    | .fn f a b => some (.fn f (a ++ vs ++ b))
    | .raw (.func (.func f) a b) => some (.fn f (a.toList.map .raw ++ vs ++ b.toList.map .raw))
    | .yld i => some (.yl i vs)
    | _ => none
  | .invoke r m => Af (Fg s.E r) fun r => Af (Mx s.E k.args.toList) fun vs => match r with
    | .ifc t v => Af (iA c s t v m) fun p => some (.fn p.1 (p.2 :: vs))
    | .raw (.iface t x) => Af (iA c s t (.raw x) m) fun p => some (.fn p.1 (p.2 :: vs))
    | _ => none
  | _ => none
def lB : Op → Option Call
  | .call k => match k.callee with
    | .builtin _ => none
    | _ => some k
  | _ => none

inductive Ex where
  | nrm
  | ex (id : Nat)
  | ret
def T0 (s : St) : ResultVar → Option V
  | .tmp t => Nx s.E t
  | .cell x t => match Nx s.E x with
    | some (.ptr i 0) => match s.blk i with
      | some (.cells l _ _) => Ic c t l 0
      | _ => none
    | _ => none
def uY (s : St) (l : List ResultVar) : Option (List V) := Fy l (some []) fun r _ ih => Af (T0 c s r) fun v => Af ih fun l => some (v :: l)
def C5 : List V → V
  | [v] => v
  | l => .tup l
def C6 (i : Nat) (l : List V) : Gb := Fy l (fun _ E => E) (fun v _ ih i E => ih (i + 1) (putV E i v)) i .leaf
def nZ (ops : Array Oper) (s : St) : Option (Nat × Bool) → Option Bool
  | none => some true
  | some g => match ops[g.1]? with
    | some o => match o.dst with
      | some t => match Nat.blt t s.N, Nx s.E t with
        | true, some (.raw (.bool x)) => some (x == g.2)
        | true, some (.raw (.tuple _)) => some false
        | _, _ => none
      | none => none
    | none => none

def dD : Op → Bool
  | .move _ | .assign _ | .pick .. | .load .. | .nilCheck _ | .binOp .. | .unOp .. | .makeInterface .. | .makeFunc .. | .slice .. | .fieldAddr .. | .field .. | .indexAddr .. | .index .. | .lookup .. | .extract .. | .build .. | .typeAssert .. => true
  | .convert .. => true
  | .call ⟨.builtin .len, _, _⟩ | .call ⟨.builtin .cap, _, _⟩ | .call ⟨.builtin .min, _, _⟩ | .call ⟨.builtin .max, _, _⟩ => true
  | _ => false

def dE : Op → Bool
  | .alloc _ => true
  | .box _ _ => true
  | .buildSlice _ _ _ => true
  | .makeMap _ none => true
  | .makeSlice _ _ _ => true
  | _ => false
def qL (p : Op → Bool) (ops : Array Oper) (i : Nat) : Bool := match ops[i]? with
  | some o => p o.op
  | none => false
/-- q: quiet; l: one at a time; a: a new block is announced, from here on its operation may have come before; f: .. it is taken up. -/
inductive PK where
  | q | l | a | f
def Dy (listed : Array Bool) (l : List Nat) : Array Bool := l.foldr (fun i a => a.setIfInBounds i true) listed
def Cg (ops : Array Oper) (g n : Nat) : List (PK × Nat) → Array Bool → List Nat → Bool
  | [], listed, ys => ys.isEmpty && Region.seqB .any ops g n listed
  | (.q, i) :: r, listed, ys => Nat.blt i n && (Region.ready .any ops listed).contains i && (qL dD ops i && Region.free .any ops listed i) && ! ys.contains i && Cg ops g n r (listed.setIfInBounds i true) ys
  | (.a, i) :: r, listed, ys => Nat.blt i n && (Region.ready .any ops listed).contains i && (qL dE ops i && Region.free .any ops listed i) && ! ys.contains i && Cg ops g n r listed (i :: ys)
  | (.l, i) :: r, listed, ys => Nat.blt i n && (Region.ready .any ops listed).contains i && ! ys.contains i && decide (Region.ready .any ops (Dy listed ys) = [i]) && Cg ops g n r (listed.setIfInBounds i true) ys
  | (.f, i) :: r, listed, ys => ys.contains i && decide (Region.ready .any ops (Dy listed (ys.filter fun j => ! Nat.beq j i)) = [i]) && Cg ops g n r (listed.setIfInBounds i true) (ys.filter fun j => ! Nat.beq j i)
def Hj : List (PK × Nat) → Nat
  | [] => 0
  | (.a, _) :: r => Hj r
  | _ :: r => Hj r + 1
def Po (l : List Oper) (n : Nat) (pl : List (PK × Nat)) : Bool :=
  Nat.ble n l.length && Nat.beq (Hj pl) n && l.all Ax && (Nat.beq n l.length || (Region.sinkB .any l.toArray n && Region.chainB .any l.toArray n)) &&
  Cg l.toArray (l.length - n) n pl (Array.replicate l.length false) []
def Ek (i : Nat) : Nat := Nat.shiftLeft 1 i
def Fz (a m : Nat) : Bool := Nat.beq (Nat.land a m) a
def wtM (o : Oper) : Nat := Fy o.after.toList 0 fun e _ ih => Be (Region.binds .any e) (Nat.lor (Ek e.on) ih) ih
def lkM (l : List Tmp) : Nat := Fy l 0 fun t _ ih => Nat.lor (Ek t) ih
def dsM (o : Oper) : Nat := match o.dst with
  | some d => Ek d
  | none => 0
/-- What a plan asks of an operation. -/
structure Fe where
  i : Nat
  b : Nat
  wt : Nat
  lk : Nat
  ds : Nat
  q : Bool
  fl : Bool
def Jn (ops : Array Oper) (i : Nat) (o : Oper) : Fe := ⟨i, Ek i, wtM o, lkM (o.looksAt ops), dsM o, dD o.op, dE o.op⟩
def oA (ops : Array Oper) : List Oper → Nat → List Fe
  | [], _ => []
  | o :: r, i => Jn ops i o :: oA ops r (Nat.succ i)
def Cr (ops : Array Oper) : List Fe := oA ops ops.toList 0
def Lx (r : Fe) (m : Nat) : Bool := Be (Fz r.b m) false (Fz r.wt m)
def Sp (rows : List Fe) (i m : Nat) : Bool := Fy rows true fun r _ ih => Be (Nat.beq r.i i) (Be (Lx r m) ih false) (Be (Lx r m) false ih)
def iB (rows : List Fe) (m : Nat) : Bool := Fy rows true fun r _ ih => Be (Lx r m) false ih
def lC (x y : Fe) : Bool := Be (Nat.beq (Nat.land x.ds y.lk) 0) (Be (Nat.beq (Nat.land x.ds y.ds) 0) (Nat.beq (Nat.land y.ds x.lk) 0) false) false
def Qo (rows : List Fe) (x : Fe) (m : Nat) : Bool := Fy rows true fun y _ ih => Be (Nat.beq y.i x.i) ih (Be (Fz y.b m) ih (Be (Fz x.b y.wt) ih (Be (lC x y) ih false)))
def oB (rows : List Fe) (i : Nat) : Option Fe := Fy rows none fun r _ ih => Be (Nat.beq r.i i) (some r) ih
def C7 (rows : List Fe) : Nat → Nat → Nat → Bool
  | 0, _, m => iB rows m
  | g + 1, k, m => Sp rows k m && C7 rows g (k + 1) (Nat.lor m (Ek k))
def C8 (rows : List Fe) (g n : Nat) : List (PK × Nat) → Nat → Nat → Bool
  | [], m, ys => Nat.beq ys 0 && C7 rows g n m
  | (k, i) :: r, m, ys => match oB rows i with
    | none => false
    | some x => match k with
      | .q => (Nat.blt i n && (Lx x m && (x.q && Qo rows x m))) && (! Fz x.b ys && C8 rows g n r (Nat.lor m x.b) ys)
      | .a => (Nat.blt i n && (Lx x m && (x.fl && Qo rows x m))) && (! Fz x.b ys && C8 rows g n r m (Nat.lor ys x.b))
      | .l => (Nat.blt i n && (Lx x m && Sp rows i (Nat.lor m ys))) && (! Fz x.b ys && C8 rows g n r (Nat.lor m x.b) ys)
      | .f => (Fz x.b ys && Sp rows i (Nat.lor m (Nat.xor ys x.b))) && C8 rows g n r (Nat.lor m x.b) (Nat.xor ys x.b)
def Kf (rows : List Fe) (n : Nat) : Bool := Fy rows true fun r _ ih => Be (Nat.ble r.i n) ih (Be (Fz (Ek (Nat.sub r.i 1)) r.wt) ih false)
def Xt (rows : List Fe) (n : Nat) : Nat := Fy rows 0 fun r _ ih => Be (Nat.ble r.i n) (Nat.lor (Nat.land r.wt (Nat.sub r.b 1)) ih) ih
def aK (rows : List Fe) (n : Nat) : Bool := Fz (Nat.sub (Ek n) 1) (Xt rows n)
def oC (rows : List Fe) (p : Fe → Bool) : Option Fe := Fy rows none fun r _ ih => Be (p r) (some r) ih
def Jb (rows : List Fe) (n : Nat) : Nat → Nat → Nat → List (PK × Nat)
  | 0, _, _ => []
  | f + 1, m, ys =>
    sB (oC rows fun r => Be (Nat.blt r.i n) (Be r.fl (Be (Lx r m) (Be (Fz r.b ys) false (Qo rows r m)) false) false) false)
      (sB (oC rows fun r => Be (Nat.blt r.i n) (Be r.q (Be (Lx r m) (Qo rows r m) false) false) false)
        (sB (oC rows fun r => Be (Nat.blt r.i n) (Be (Lx r m) (Be (Fz r.b ys) false (Sp rows r.i (Nat.lor m ys))) false) false)
          (sB (oC rows fun r => Be (Fz r.b ys) (Sp rows r.i (Nat.lor m (Nat.xor ys r.b))) false)
            []
            fun r => (.f, r.i) :: Jb rows n f (Nat.lor m r.b) (Nat.xor ys r.b))
          fun r => (.l, r.i) :: Jb rows n f (Nat.lor m r.b) ys)
        fun r => (.q, r.i) :: Jb rows n f (Nat.lor m r.b) ys)
      fun r => (.a, r.i) :: Jb rows n f m (Nat.lor ys r.b)
def okM (ops : Array Oper) (rows : List Fe) (n : Nat) (pl : List (PK × Nat)) : Bool :=
  Be (Nat.ble n ops.size) (Be (Nat.beq (Hj pl) n) (Be (ops.toList.all Ax) (C8 rows (Nat.sub ops.size n) n pl 0 0) false) false) false
def Pp (ops : Array Oper) (rows : List Fe) (n : Nat) (pl : List (PK × Nat)) : Option (Nat × List (PK × Nat)) :=
  Be (okM ops rows n pl) (some (n, pl)) none
def dF (ops : Array Oper) (rows : List Fe) (l : List Nat) : Option (Nat × List (PK × Nat)) :=
  Fy l none fun n _ ih => Be (Be (Nat.beq n ops.size) true (Be (Kf rows n) (aK rows n) false)) (sB (Pp ops rows n (Jb rows n (Nat.add n n) 0 0)) ih some) ih
def uZ (ops : Array Oper) : Option (Nat × List (PK × Nat)) := dF ops (Cr ops) (List.range (ops.size + 1))

def aL : List Tmp → List V → St → Option St
  | t :: ts, v :: vs, s => Af (s.put t v) fun s => aL ts vs s
  | [], [], s => some s
  | _, _, _ => none
def Xu : List (List V) → Option (List (List UInt8))
  | [] => some []
  | [.raw (.string b)] :: r => Af (Xu r) fun l => some (b.data.toList :: l)
  | _ => none
def Xv (sep : List UInt8) : List (List UInt8) → List UInt8
  | [] => []
  | [x] => x
  | x :: r => x ++ (sep ++ Xv sep r)
def C9 : V → Bool
  | .raw (.slice none 0 0) => true
  | .sl _ _ n c => Nat.ble n c
  | .osl _ _ _ _ none => true
  | .osl _ j _ n (some m) => Nat.ble (j + n) m
  | _ => false
def vA (s : St) : List V → Option V
  | [x, .raw (.string b)] => Af (Hy s 1 x) fun p => Af (Xu p.1) fun l => Be (Be (C9 x) (Be (Nat.ble l.length 1000000) (Nat.ble (Xv b.data.toList l).length 1000000) false) false) (some (.raw (.string ⟨(Xv b.data.toList l).toArray⟩))) none
  | _ => none
def Vh (s : St) : V → Option (Nat × Nat × List Pc)
  | .ptr i 0 => match s.blk i with
    | some (.fifo n q) => some (i, n, q)
    | _ => none
  | _ => none
def vB (q : List Pc) (n : Lin) : Option (List Pc × List Pc) := Af (Nw c.B q) fun m => match kO c.B m n with
  | true => some (q, [])
  | false => match gL c.B n && kO c.B n m with
    | true => Af (aF c.B q n) fun a => Af (Xm c.B q n) fun b => some (a, b)
    | false => none
/-- r: numbers renamed; ti, ts: what the variables stand for. -/
structure Sb where
  r : List (Nat × Nat)
  ti : List Lin
  ts : List (List Pc)
def Ks : List (Nat × Nat) → Nat → Nat
  | [], i => i
  | p :: r, i => match Nat.beq p.1 i with
    | true => p.2
    | false => Ks r i
def Sb.num (b : Sb) (i : Nat) : Nat := Ks b.r i
def Sb.lin (b : Sb) (i : Nat) : Lin := match Bk b.ti i with
  | some e => e
  | none => ⟨0, [(i, 1)]⟩
def Sb.txt (b : Sb) (i : Nat) : List Pc := match Bk b.ts i with
  | some l => l
  | none => [.var i]
def Au.sb (ρ : Au) (b : Sb) : Au := { blk := fun i => ρ.blk (b.num i), own := fun i => ρ.own (b.num i), lp := fun i => ρ.lp (b.num i), iv := fun i => (b.lin i).den ρ.iv, sv := fun i => Aq ρ.iv ρ.sv (b.txt i) }
def iC (b : Sb) : List (Nat × Int) → Lin
  | [] => .const 0
  | p :: r => ((b.lin p.1).smul p.2).add (iC b r)
def D0 (b : Sb) (e : Lin) : Lin := (iC b e.l).addc e.c
def iD (b : Sb) : List Pc → List Pc
  | [] => []
  | .lit x :: r => .lit x :: iD b r
  | .byt e :: r => .byt (D0 b e) :: iD b r
  | .var i :: r => b.txt i ++ iD b r
def iE : List Pc → List Pc
  | [] => []
  | .lit x :: r => match x, iE r with
    | [], t => t
    | x, .lit y :: t => .lit (x ++ y) :: t
    | x, t => .lit x :: t
  | p :: r => p :: iE r
def T1 (b : Sb) (p q : List Pc) : Bool := uF (iE (iD b p)) (iE q)
def T3 (x y : ByteArray) : Bool := x.data.toList == y.data.toList
def eqR : Nat → Value → Value → Bool
  | 0, _, _ => false
  | d + 1, x, y => match x, y with
    | .int k n, .int k' n' => k == k' && n == n'
    | .bool a, .bool b => a == b
    | .string a, .string b => T3 a b
    | .pointer none, .pointer none => true
    | .pointer (some ⟨p, o, none⟩), .pointer (some ⟨q, u, none⟩) => Nat.beq p q && Nat.beq o u
    | .slice none n c, .slice none n' c' => Nat.beq n n' && Nat.beq c c'
    | .map none, .map none => true
    | .nilIface, .nilIface => true
    | .nilFunc, .nilFunc => true
    | .iface t x, .iface t' y => Nat.beq t t' && eqR d x y
    | _, _ => false
def Qz {α : Type} (f : α → α → Bool) : List α → List α → Bool
  | [], [] => true
  | x :: r, y :: t => match f x y with
    | true => Qz f r t
    | false => false
  | _, _ => false
def AG3 : Option Nat → Option Nat → Bool
  | none, none => true
  | some a, some b => Nat.beq a b
  | _, _ => false
def Ra (b : Sb) : Nat → V → V → Bool
  | 0, _, _ => false
  | d + 1, v, u => match Oa v, Oa u with
    | some p, some q => p.1 == q.1 && C1 ((D0 b p.2).sub q.2)
    | _, _ => match cZ v, cZ u with
      | some p, some q => T1 b p q
      | _, _ => match v, u with
        | .raw x, .raw y => eqR 6 x y
        | .ptr i o, .ptr j p => Nat.beq (b.num i) j && Nat.beq o p
        | .optr i o, .optr j p => Nat.beq (b.num i) j && Nat.beq o p
        | .sl i o n c, .sl j p m e => Nat.beq (b.num i) j && (Nat.beq o p && (Nat.beq n m && Nat.beq c e))
        | .osl i j k n m, .osl i' j' k' n' m' => Nat.beq (b.num i) i' && (Nat.beq j j' && (Nat.beq k k' && (Nat.beq n n' && AG3 m m')))
        | .esl i j p k, .esl i' j' p' k' => Nat.beq (b.num i) i' && (Nat.beq j j' && (Nat.beq p p' && Nat.beq k k'))
        | .mp i, .mp j => Nat.beq (b.num i) j
        | .fn f l m, .fn f' l' m' => Nat.beq f f' && (Qz (Ra b d) l l' && Qz (Ra b d) m m')
        | .ifc t x, .ifc t' y => Nat.beq t t' && Ra b d x y
        | .agg l, .agg l' => Qz (Ra b d) l l'
        | .tup l, .tup l' => Qz (Ra b d) l l'
        | _, _ => false
def vC (b : Sb) (l m : List V) : Bool := Qz (Ra b 6) l m
def AG4 (b : Sb) (e f : V × V × Nat) : Bool := Ra b 6 e.1 f.1 && (Ra b 6 e.2.1 f.2.1 && Nat.beq e.2.2 f.2.2)
def eqO (b : Sb) : O → O → Bool
  | .cells l t f, .cells l' t' f' => vC b l l' && (Nat.beq t t' && (Nat.beq f.1 f'.1 && Nat.beq f.2 f'.2))
  | .own t k xs, .own t' k' xs' => Nat.beq t t' && (Nat.beq k k' && Qz (vC b) xs xs')
  | .map es ck, .map es' ck' => Nat.beq ck ck' && Qz (AG4 b) es es'
  | .mark, .mark => true
  | .fifo c q, .fifo c' q' => Nat.beq c c' && T1 b q q'
  | .dead, .dead => true
  | _, _ => false
def lD (l : List (Nat × O)) : Hp := Fy l .leaf fun p _ ih => ih.set p (p.1 + 1)
def M7 (l : List (Nat × V)) : Gb := Fy l .leaf fun p _ ih => ih.set p (p.1 + 1)
def De (n N : Nat) (l : List (Nat × O)) (e : List (Nat × V)) : St := ⟨n, lD l, N, M7 e, [], false, 0, []⟩
def Dv : Sb := ⟨[], [], []⟩
def aM (s : St) (args : List V) (e : Ii) : Bool := Nat.beq s.n e.n0 && (Nat.ble e.n0 e.n1 && (Nat.beq s.lo 0 && (vC Dv e.args args && e.pre.all fun p => match s.blk p.1 with | some o => eqO Dv p.2 o | none => false)))
def Wc (s : St) (args : List V) (l : List Ii) : Option Ii := Fy l none fun e _ ih => Be (aM s args e) (some e) ih
def Qh (h : Hk) (s : St) (args : List V) : Option (V × St) := match h, args with
  | .join, vs => Af (vA s vs) fun v => some (v, s)
  | .tab l, vs => Af (Wc s vs l) fun e => some (e.v, { s with n := e.n1, H := lD e.post })
  | .txt f, [.raw (.string b)] => match Nat.ble b.data.toList.length 1000000 with
    | true => some (.raw (.string ⟨(f b.data.toList).toArray⟩), s)
    | false => none
  | .fNew, [.raw (.int .i64 (.ofNat n))] => match Nat.blt 0 n && Nat.ble n 4096 with
    | true => Af (s.new (.fifo n [])) fun s' => some (.tup [.ptr s.n 0, .raw (.int .i64 0)], s')
    | false => none
  | .fLen, [f] => Af (Vh s f) fun p => Af (Nw c.B p.2.2) fun n => some (nT .i64 n, s)
  | .fRoom, [f] => Af (Vh s f) fun p => Af (Nw c.B p.2.2) fun n => some (nT .i64 ((Lin.const p.2.1).sub n), s)
  | .fPush, [f, x] => Af (Vh s f) fun p => Af (cZ x) fun x => Af (Nw c.B x) fun l => match kO c.B l (.const 1000000) with
    | true => Af (Nw c.B p.2.2) fun n => Af (vB c x ((Lin.const p.2.1).sub n)) fun t => Af (Nw c.B t.1) fun m =>
      Af (s.wrt p.1 (.fifo p.2.1 (p.2.2 ++ t.1))) fun s' => some (nT .i64 m, s')
    | false => none
  | .fPeek, [f, n] => Af (Vh s f) fun p => Af (Oa n) fun n => match n.1 == .i64 && (gL c.B n.2 && kO c.B n.2 (.const 1000000)) with
    | true => Af (vB c p.2.2 n.2) fun t => some (R8 t.1, s)
    | false => none
  | .fPop, [f, n] => Af (Vh s f) fun p => Af (Oa n) fun n => match n.1 == .i64 && (gL c.B n.2 && kO c.B n.2 (.const 1000000)) with
    | true => Af (vB c p.2.2 n.2) fun t => Af (s.wrt p.1 (.fifo p.2.1 t.2)) fun s' => some (R8 t.1, s')
    | false => none
  | .fClear, [f] => Af (Vh s f) fun p => Af (Nw c.B p.2.2) fun n => Af (s.wrt p.1 (.fifo p.2.1 [])) fun s' => some (nT .i64 n, s')
  | _, _ => none
def dG (g : Nat) (l : List (Nat × Hk)) : Option Hk := Fy l none fun p _ ih => Be (Nat.beq p.1 g) (some p.2) ih
def D1 {α β : Type} (k : α → Option (List β)) (l : List α) : Option (List β) :=
  Fy l (some []) fun a r ih => Fy r (k a) fun _ _ _ => Af (k a) fun x => Af ih fun y => some (x ++ y)
def jX {α β : Type} (m : Option (List α)) (k : α → Option (List β)) : Option (List β) := Af m fun l => D1 k l
def one {α β : Type} (m : Option α) (k : α → Option β) : Option β := Af m k
def oD (x : IntKind × Int) : List (V × St) → Bool
  | [] => true
  | p :: r => match p.1, p.2.wr with
    | .raw (.int k n), [] => (k == x.1 && n == x.2) && oD x r
    | _, _ => false
def oE (s : St) (l : List (V × St)) : Option (List (V × St)) := match l with
  | (.raw (.int k n), _) :: _ => match oD (k, n) l with
    | true => some [(.raw (.int k n), s)]
    | false => none
  | _ => none
def Uf (ops : Array Oper) (j q : Nat) : Bool := match ops[j]? with
  | some o => o.after.any fun e => Region.binds .any e && Nat.beq e.on q
  | none => false
def lE (ops : Array Oper) (q : Nat) (rs : List RE) (ws : List (Nat × List RE)) : Bool :=
  Fy rs true fun r _ ih => Be (Fy ws true fun w _ ih => Be (Fy w.2 true fun x _ ih => Be (Ja r x) ih (Be (Uf ops w.1 q) ih false)) ih false) ih false
def Xw (s s' : St) : St := { s' with lo := s.lo, wr := Fy s'.wr s.wr fun r _ ih => Cm s.lo r ih }

/-- What runs: code, an operation, a function. -/
structure Ev where
  c : Code → St → Option (List (Ex × St))
  o : Oper → St → Option (List St)
  f : Nat → List V → St → Option (List (V × St))
def Ev.no : Ev := ⟨fun _ _ => none, fun _ _ => none, fun _ _ _ => none⟩
def xOp (e : Ev) (ops : Array Oper) (o : Oper) (ih : St → Option (List St)) (s : St) : Option (List St) := match nZ ops s o.guard with
  | none => none
  | some false => one (s.puto o.dst Kq) ih
  | some true => jX (e.o o s) ih
def xL (e : Ev) (ops : Array Oper) (l : List Oper) : St → Option (List St) := Fy l (fun s => some [s]) fun o _ ih => xOp e ops o ih
abbrev DR := Option (St × List (Nat × List RE))
def xDq (ops : Array Oper) (i : Nat) (o : Oper) (ih : St → DR) (s : St) : DR :=
  one (qop c s o.op) fun q => one (s.puto o.dst q.1) fun s' => one (ih s') fun x => Be (lE ops i q.2 x.2) (some x) none
def xDl (e : Ev) (i : Nat) (o : Oper) (ih : St → DR) (s : St) : DR := match e.o o { s with lo := s.n, wr := [] } with
  | some [s'] => one (ih (Xw s s')) fun x => some (x.1, (i, s'.wr) :: x.2)
  | _ => none
abbrev An := List (Nat × O × (Nat → V))
def vD (i : Nat) (ys : An) : Option (O × (Nat → V)) := Fy ys none fun p _ ih => Be (Nat.beq p.1 i) (some p.2) ih
def xDf (i : Nat) (o : Oper) (ih : An → St → DR) (ys : An) (s : St) : DR := one (vD i ys) fun p => one (s.new p.1) fun s' => one (s'.puto o.dst (p.2 s.n)) (ih ys)
def xDo (e : Ev) (ops : Array Oper) (p : PK × Nat) (ih : An → St → DR) (ys : An) (s : St) : DR := match ops[p.2]? with
  | none => none
  | some o => match p.1 with
    | .f => xDf p.2 o ih ys s
    | k => match nZ ops s o.guard with
      | none => none
      | some false => match k with
        | .a => none
        | _ => one (s.puto o.dst Kq) (ih ys)
      | some true => match k with
        | .q => xDq c ops p.2 o (ih ys) s
        | .l => xDl e p.2 o (ih ys) s
        | _ => one (S9 c s o.op) fun q => ih ((p.2, q) :: ys) s
def xD (e : Ev) (ops : Array Oper) (l : List (PK × Nat)) : An → St → DR := Fy l (fun _ s => some (s, [])) fun p _ ih => xDo c e ops p ih
def aN (e : Ev) (b : Code) (r : Ex × St) : Option (List (Ex × St)) := match r.1 with
  | .nrm => e.c b r.2
  | x => some [(x, r.2)]
def dH (id : Nat) (r : Ex × St) : Option (List (Ex × St)) := match r.1 with
  | .ex j => match Nat.beq j id with
    | true => some [(.nrm, r.2)]
    | false => some [(.ex j, r.2)]
  | x => some [(x, r.2)]
def vE (e : Ev) (x : Operand) (a b : Code) (s : St) : Option (List (Ex × St)) := match Fg s.E x with
  | some (.raw (.bool true)) => e.c a s
  | some (.raw (.bool false)) => e.c b s
  | _ => none
def qM (r : St) : Option (List (Ex × St)) := some [(.nrm, r)]
def vF (e : Ev) (ops : Array Oper) (s : St) : Option (List (Ex × St)) := match uZ ops with
  | some pl => match xD c e ops pl.2 [] s with
    | some r => jX (xL e ops (ops.toList.drop pl.1) r.1) qM
    | none => none
  | none => none
def D2 (e : Ev) (ops : Array Oper) (draw : Bool) (s : St) : Option (List (Ex × St)) := match draw with
  | false => jX (xL e ops ops.toList s) qM
  | true => vF c e ops s
def T4 (e : Ev) (s : St) (r : V × St) : Option (List (Ex × St)) := match r.2.blk (s.n + 1) with
  | some (.loop N E ps asg bo .ready none) => one (r.2.wrt (s.n + 1) .dead) fun s4 => some [(.nrm, { s4 with N := s.N, E := s.E, ms := s.n :: s.ms, rd := s.rd })]
  | some (.loop N E ps asg bo .done (some j)) => one (r.2.wrt (s.n + 1) .dead) fun s4 => e.c j { s4 with N := s.N, E := s.E, ms := s.n :: s.ms, rd := s.rd }
  | _ => none
def dI (k : Nat) : Bool := match c.P.funcs[k]? with
  | some fn => match fn.body with
    | some _ => true
    | none => false
  | none => false
def xRf (e : Ev) (g : Operand) (ps : Array Tmp) (asg bo : Code) (s : St) : Option (List (Ex × St)) := match s.rd with
  | true => none
  | false => match Fg s.E g with
    | some (.fn k fs cs) => Be (dI c k) (one (s.new .mark) fun s1 => one (s1.new (.loop s.N s.E ps.toList asg bo .ready none)) fun s2 => jX (e.f k (fs ++ [.yld (s.n + 1)] ++ cs) s2) (T4 e s)) none
    | _ => none
def xCt (k : Code) : Dr → Ev → St → Option (List (Ex × St)) := match k with
  | .skip => fun _ _ s => some [(.nrm, s)]
  | .label _ => fun _ _ s => some [(.nrm, s)]
  | .ret => fun _ _ s => some [(.ret, s)]
  | .exit id => fun _ _ s => some [(.ex id, s)]
  | .seq a b => fun _ e s => jX (e.c a s) (aN e b)
  | .cond x a b => fun _ e s => vE e x a b s
  | .block id a => fun _ e s => jX (e.c a s) (dH id)
  | .scope a => fun _ e s => e.c a s
  | .loop a => fun _ e s => jX (e.c a s) (aN e (.loop a))
  | .region _ ops draw => fun c e s => D2 c e ops draw s
  | .rangeFunc g ps asg bo => fun c e s => xRf c e g ps asg bo s
  | _ => fun _ _ _ => none
def xC (e : Ev) (k : Code) (s : St) : Option (List (Ex × St)) := xCt k c e s
def Xx (s : St) (i : Nat) : Option St := match s.blk i with
  | some (.loop N E ps asg bo .ready none) => s.wrt i (.loop N E ps asg bo .busy none)
  | _ => none
def vG (s : St) (i : Nat) (st : LoopState) (j : Option Code) : Option St := match s.blk i with
  | some (.loop N E ps asg bo .busy none) => s.wrt i (.loop N E ps asg bo st j)
  | _ => none
def lF (o : Oper) (s : St) (i : Nat) (st : LoopState) (j : Option Code) (b : Bool) (r : St) : Option (List St) := match r.ms with
  | [] => one (vG r i st j) fun s6 => one ({ s6 with N := s.N, E := s.E, ms := s.ms, rd := s.rd }.puto o.dst (.raw (.bool b))) fun s7 => some [s7]
  | _ => none
def T5 (o : Oper) (s : St) (i : Nat) (q : Ex × St) : Option (List St) := match q.1 with
  | .nrm => lF o s i .ready none true q.2
  | .ex id => lF o s i .done (some (.exit id)) false q.2
  | .ret => lF o s i .done (some .ret) false q.2
def T6 (e : Ev) (o : Oper) (s : St) (i : Nat) (bo : Code) (r : Ex × St) : Option (List St) := match r.1 with
  | .nrm => one (Xx r.2 i) fun s4 => jX (e.c bo s4) (T5 o s i)
  | _ => none
def xYl (e : Ev) (o : Oper) (i : Nat) (vs : List V) (s : St) : Option (List St) := match s.blk i with
  | some (.loop N E ps asg bo .ready none) =>
    one (aL ps vs { s with N := N, E := E, ms := [], rd := true }) fun s2 => jX (e.c asg s2) (T6 e o s i bo)
  | _ => none
def lG (o : Oper) (r : V × St) : Option (List St) := one (r.2.puto o.dst r.1) fun s => some [s]
def vH (e : Ev) (k : Call) (o : Oper) (s : St) : Option (List St) := match uX c s k with
  | some (.fn g args) => jX (e.f g args s) (lG o)
  | some (.yl i vs) => xYl e o i vs s
  | none => none
def oF (o : Oper) (s : St) : Option (List St) := match o.op with
  | .next x false => jX (gZ s x) (lG o)
  | _ => none
def vI (o : Oper) (s : St) : Option (List St) := match mop c s o.op with
  | some q => match q.1 with
    | some v => lG o (v, q.2)
    | none => lG o (Kq, q.2)
  | none => oF o s
def xO (e : Ev) (o : Oper) (s : St) : Option (List St) := match lB o.op with
  | some k => vH c e k o s
  | none => match qop c s o.op with
    | some q => lG o (q.1, s)
    | none => vI c o s
def Sq (fn : Func) (s : St) (r : Ex × St) : Option (List (V × St)) := match r.1 with
  | .ex _ => none
  | _ => one (r.2.kill r.2.ms) fun s' => one (uY c s' fn.results.toList) fun vs => some [(C5 vs, { s' with N := s.N, E := s.E, ms := s.ms, rd := s.rd })]
def aO (e : Ev) (g : Nat) (fn : Func) (b : Code) (args : List V) (s : St) : Option (List (V × St)) := match Nat.ble args.length fn.ntmps with
  | false => none
  | true => match c.pure.contains g with
    | false => jX (e.c b { s with N := fn.ntmps, E := C6 0 args, ms := [], rd := false }) (Sq c fn s)
    | true => one (jX (e.c b { s with N := fn.ntmps, E := C6 0 args, ms := [], rd := false, lo := s.n, wr := [] }) (Sq c fn s)) (oE s)
def D3 (g : Nat) (args : List V) (s : St) : Option (List (V × St)) := match kP rawQ args with
  | some us => match Eu c.P (callFunc g us.toArray) with
    | some (.value v) => some [(.raw v, s)]
    | _ => none
  | none => none
def xW (e : Ev) (g : Nat) (args : List V) (s : St) : Option (List (V × St)) := match c.P.funcs[g]? with
  | some fn => match fn.body with
    | some b => aO c e g fn b args s
    | none => D3 c g args s
  | none => none
def xF (e : Ev) (g : Nat) (args : List V) (s : St) : Option (List (V × St)) := match dG g c.hk with
  | some h => match Qh c h s args with
    | some r => some [r]
    | none => xW c e g args s
  | none => xW c e g args s
def evx (n : Nat) : Ev := Q8 n Ev.no fun _ e => ⟨xC c e, xO c e, xF c e⟩
end
end
end Go.Proofs.YtbooaoddioibeaaGreatDoor.Jd

namespace Go.Proofs.YtbooaoddioibeaaGreatDoor.Jd
open Go.Proofs.Tryz
open Go.Proofs
open Go.RowKit (Below)
set_option linter.unusedVariables false
set_option linter.unusedSimpArgs false

theorem Bs {c : Dr} {t : TypeId} {d : TypeDesc} (h : Ij c t = some d) : ∀ w, (underlying t).run c.P w = .ok d w := Dd h
theorem Cy {c : Dr} {t : TypeId} {n : Nat} (h : Ik c t = some n) : ∀ w, (sizeOf t).run c.P w = .ok n w := Dd h
theorem oG {c : Dr} {t : TypeId} {n : Bool} (h : AF3 c t = some n) : ∀ w, (isAgg t).run c.P w = .ok n w := Dd h
theorem Ly {c : Dr} {t : TypeId} {n : Value} (h : Qg c t = some n) : ∀ w, (zeroValue t).run c.P w = .ok n w := Dd h
theorem Bj {c : Dr} {t e : TypeId} (h : Br c t = some e) : ∀ w, (underlying t).run c.P w = .ok (.slice e) w := by
  unfold Br at h; split at h
  · rename_i he; simp only [Option.some.injEq] at h; subst h; exact Bs he
  · cases h
theorem Sr {c : Dr} {t : TypeId} {e : Nat × TypeId} (h : aH c t = some e) : ∀ w, (underlying t).run c.P w = .ok (.array e.1 e.2) w := by
  unfold aH at h; split at h
  · rename_i he; simp only [Option.some.injEq] at h; subst h; exact Bs he
  · cases h
theorem Vi {c : Dr} {t : TypeId} {e : Array Field} (h : Sj c t = some e) : ∀ w, (underlying t).run c.P w = .ok (.struct e) w := by
  unfold Sj at h; split at h
  · rename_i he; simp only [Option.some.injEq] at h; subst h; exact Bs he
  · cases h
theorem Hl {c : Dr} {t : TypeId} {e : TypeId × TypeId} (h : Vg c t = some e) : ∀ w, (underlying t).run c.P w = .ok (.map e.1 e.2) w := by
  unfold Vg at h; split at h
  · rename_i he; simp only [Option.some.injEq] at h; subst h; exact Bs he
  · cases h
theorem Hm {c : Dr} {t : TypeId} {e : Unit} (h : Jr c t = some e) : ∀ w, (underlying t).run c.P w = .ok .string w := by
  unfold Jr at h; split at h
  · rename_i he; exact Bs he
  · cases h
theorem D4 {c : Dr} {t : TypeId} {e : Unit} (h : qG c t = some e) : ∀ w, (underlying t).run c.P w = .ok (.int .u8) w := by
  unfold qG at h; split at h
  · rename_i he; exact Bs he
  · cases h

theorem Ez (ρ : Au) : ∀ (l : List V) (k : Nat), (Ac ρ l)[k]? = (l[k]?).map (V.den ρ) := by
  intro l k; rw [Ew, List.getElem?_map]
theorem Js (l : List V) (k : Nat) : Lw l k = l[k]? := cO l k
theorem Jc {ρ : Au} {l : List V} {k : Nat} {v : V} (h : Lw l k = some v) : sA (Ac ρ l) k = some (v.den ρ) := by
  rw [Js] at h; rw [Em, Ez, h]; rfl
theorem dJ {n : Nat} {l : List V} {k : Nat} {v : V} (hl : Dh n l) (h : Lw l k = some v) : v.lt n := by
  rw [Js] at h; exact Ej.1 hl v (List.mem_of_getElem? h)
theorem vJ (k n : Nat) : Si [] k n = if n = 0 then some [] else none := by
  show Be (Nat.beq n 0) _ _ = _
  rw [Dg]; simp only [Nat.beq_eq]
theorem qN (v : V) (r : List V) (k n : Nat) : Si (v :: r) k n = if n = 0 then some [] else if k = 0 then Af (Si r 0 (n - 1)) fun l => some (v :: l) else Si r (k - 1) n := by
  show Be (Nat.beq n 0) _ (Be (Nat.beq k 0) (Af (Si r 0 (Nat.sub n 1)) fun l => some (v :: l)) (Si r (Nat.sub k 1) n)) = _
  simp only [Dg, Nat.beq_eq]; rfl
theorem Il : ∀ (l : List V) (k n : Nat) (cs : List V), Si l k n = some cs → cs = (l.drop k).take n ∧ cs.length = n
  | [], k, n, cs, h => by
    rw [vJ] at h;split at h
    · rename_i hn; subst hn; simp only [Option.some.injEq] at h; subst h; simp
    · cases h
  | v :: r, k, n, cs, h => by
    rw [qN] at h;split at h
    · rename_i hn; subst hn; simp only [Option.some.injEq] at h; subst h; simp
    · rename_i hn
      obtain ⟨m, rfl⟩ : ∃ m, n = m + 1 := ⟨n - 1, by omega⟩
      split at h
      · rename_i hk
        subst hk;obtain ⟨l, hl, e⟩ := Ab.1 h;simp only [Option.some.injEq] at e;subst e;obtain ⟨h1, h2⟩ := Il r 0 _ l hl;simp only [List.drop_zero, Nat.add_sub_cancel] at h1 h2;subst h1;exact ⟨by simp, by simp at h2 ⊢; omega⟩
      · rename_i hk
        obtain ⟨q, rfl⟩ : ∃ q, k = q + 1 := ⟨k - 1, by omega⟩
        obtain ⟨h1, h2⟩ := Il r q (m + 1) cs h;exact ⟨by simpa using h1, h2⟩
theorem vK : ∀ (n k : Nat) (l : List Value), ((l.drop k).take n).length = n → fM l k n = some ((l.drop k).take n)
  | 0, k, l, h => by simp [fM]
  | n + 1, k, l, h => by
    have hk : k < l.length := by simp at h; omega
    have e : l.drop k = l[k] :: l.drop (k + 1) := List.drop_eq_getElem_cons hk;rw [e, List.take_succ_cons] at h ⊢;have := vK n (k + 1) l (by simpa using h);simp only [fM, this, Em, List.getElem?_eq_getElem hk]
theorem vL {ρ : Au} {l cs : List V} {k n : Nat} (h : Si l k n = some cs) : fM (Ac ρ l) k n = some (Ac ρ cs) := by
  obtain ⟨rfl, h2⟩ := Il l k n cs h;have e : ((Ac ρ l).drop k).take n = Ac ρ ((l.drop k).take n) := by simp only [Ew, List.map_take, List.map_drop]
  rw [← e];exact vK n k _ (by rw [e, Ag]; exact h2)
theorem oH {m : Nat} {l cs : List V} {k n : Nat} (hl : Dh m l) (h : Si l k n = some cs) : Dh m cs := by
  obtain ⟨rfl, _⟩ := Il l k n cs h;exact Ej.2 fun v hv => Ej.1 hl v (List.mem_of_mem_drop (List.mem_of_mem_take hv))
theorem Lz (ρ : Au) : ∀ (l : List V) (n : Nat) (us l' : List V), Ny l n us = some l' → Bv (Ac ρ l) n (Ac ρ us) = Ac ρ l' ∧ l'.length = l.length ∧ n + us.length ≤ l.length ∧ ∀ m, Dh m l → Dh m us → Dh m l'
  | [], n, [], l', h => by
    have h : Be (Nat.beq n 0) (some []) none = some l' := h;rw [Ch] at h;obtain ⟨h1, h2⟩ := h;have := Nat.eq_of_beq_eq_true h1;simp only [Option.some.injEq] at h2;subst h2 this;exact ⟨rfl, rfl, Nat.le_refl _, fun m h1 _ => h1⟩
  | [], n, u :: us, l', h => by cases h
  | v :: r, n, [], l', h => by
    have h : Be (Nat.beq n 0) (some (v :: r)) (Be (Nat.ble n (r.length + 1)) (some (v :: r)) none) = some l' := h;have e : v :: r = l' ∧ n ≤ r.length + 1 := by
      simp only [Dg, Nat.beq_eq, Nat.ble_eq] at h;split at h
      · rename_i hn; simp only [Option.some.injEq] at h; exact ⟨h, by omega⟩
      · split at h
        · rename_i hb; simp only [Option.some.injEq] at h; exact ⟨h, hb⟩
        · cases h
    obtain ⟨rfl, hn⟩ := e;exact ⟨by simp [Ac, Bv], rfl, by simpa using hn, fun m h1 _ => h1⟩
  | v :: r, n, u :: us, l', h => by
    have h : Be (Nat.beq n 0) (Af (Ny r 0 us) fun l => some (u :: l)) (Af (Ny r (Nat.sub n 1) (u :: us)) fun l => some (v :: l)) = some l' := h;simp only [Dg, Nat.beq_eq] at h;split at h
    · rename_i hn
      subst hn;obtain ⟨l, hl, e⟩ := Ab.1 h;simp only [Option.some.injEq] at e;subst e;obtain ⟨h1, h2, h3, h4⟩ := Lz ρ r 0 us l hl;exact ⟨by simp only [Ac, Bv, h1], by simp [h2], by simp at h3 ⊢; omega, fun m hl hu => ⟨hu.1, h4 m hl.2 hu.2⟩⟩
    · rename_i hn
      obtain ⟨q, rfl⟩ : ∃ q, n = q + 1 := ⟨n - 1, by omega⟩
      obtain ⟨l, hl, e⟩ := Ab.1 h;simp only [Option.some.injEq] at e;subst e;obtain ⟨h1, h2, h3, h4⟩ := Lz ρ r q (u :: us) l hl;refine ⟨?_, by simp [h2], by simp at h3 ⊢; omega, fun m hl hu => ⟨hl.1, h4 m hl.2 hu⟩⟩;simp only [Ac, Bv] at h1 ⊢; rw [h1]
theorem oI : ∀ a b : List V, R5 a b = a ++ b
  | [], b => rfl
  | x :: r, b => by show x :: R5 r b = _; rw [oI r b]; rfl
theorem Dj : Aw [] = [] := rfl
theorem Dp (x : List V) (r : List (List V)) : Aw (x :: r) = x ++ Aw r := oI x (Aw r)
theorem Je : ∀ xs : List (List V), Aw xs = xs.flatten
  | [] => rfl
  | x :: r => by simp only [Dp, Je r, List.flatten_cons]
theorem Ss {k : Nat} : ∀ (n : Nat) (l : List V) (xs : List (List V)), Xp k n l = some xs → l = Aw xs ∧ xs.length = n ∧ ∀ x ∈ xs, x.length = k
  | 0, [], xs, h => by have h : some [] = some xs := h; simp only [Option.some.injEq] at h; subst h; simp [Dj]
  | 0, _ :: _, xs, h => by cases h
  | n + 1, l, xs, h => by
    have h : (Af (Si l 0 k) fun x => Af (Xp k n (l.drop k)) fun r => some (x :: r)) = some xs := h;simp only [Ab, Option.some.injEq] at h;obtain ⟨x, hx, r, hr, rfl⟩ := h;obtain ⟨h1, h2⟩ := Il l 0 k x hx;obtain ⟨h3, h4, h5⟩ := Ss n _ r hr;refine ⟨?_, by simp [h4], fun y hy => ?_⟩
    · rw [Dp, ← h3, h1]; simp
    · rcases List.mem_cons.1 hy with rfl | hy
      · exact h2
      · exact h5 y hy
theorem Du {n : Nat} : ∀ {xs : List (List V)}, Dh n (Aw xs) ↔ ∀ x ∈ xs, Dh n x
  | [] => by simp [Dj, Dh]
  | x :: r => by simp [Dp, Fp, Du (xs := r)]
theorem Ef (ρ : Au) : ∀ xs : List (List V), Ac ρ (Aw xs) = (xs.map (Ac ρ)).flatten
  | [] => rfl
  | x :: r => by simp only [Dp, Cq, Ef ρ r, List.map_cons, List.flatten_cons]
theorem D5 (ρ : Au) {v : V} (h : kR v = true) : (v.den ρ).oneCell' = true := by
  cases v <;> first | exact h | rfl | (simp [kR] at h)
theorem Hn (ρ : Au) : ∀ {l : List V}, Ey l = true → Bn (Ac ρ l) = true
  | [], _ => rfl
  | v :: r, h => by
    have h : Be (kR v) (Ey r) false = true := h;rw [Dg] at h;split at h
    · rename_i hv; simp only [Ac, Bn, D5 ρ hv, Hn ρ h, Bool.and_self]
    · cases h
theorem Ug (ρ : Au) {k : Nat} : ∀ {xs : List (List V)}, gX k xs = true → ∀ x ∈ xs, x.length = k ∧ Bn (Ac ρ x) = true
  | [], _, x, hx => by cases hx
  | y :: r, h, x, hx => by
    have h : Be (Nat.beq y.length k) (Be (Ey y) (gX k r) false) false = true := h;simp only [Dg, Nat.beq_eq] at h;split at h
    · rename_i hy
      split at h
      · rename_i ho
        rcases List.mem_cons.1 hx with rfl | hx
        · exact ⟨hy, Hn ρ ho⟩
        · exact Ug ρ h x hx
      · cases h
    · cases h
theorem dK {v : Value} {n : Nat} (h : uA v = some n) : ∃ k, v = .int k n := by
  unfold uA at h;split at h
  · simp only [Option.some.injEq] at h; subst h; exact ⟨_, rfl⟩
  · cases h
end Go.Proofs.YtbooaoddioibeaaGreatDoor.Jd

namespace Go.Proofs.YtbooaoddioibeaaGreatDoor.Jd
open Go.Proofs.Tryz
open Go.Proofs
open Go.RowKit (Below)
set_option linter.unusedVariables false
set_option linter.unusedSimpArgs false

structure Yv (c : Dr) (b0 : World) (Mk : List Nat) (ρ : Au) (n : Nat) : Prop where
  v : Hc c.B ρ.iv ρ.sv
  g : ∀ p ∈ c.G, (∃ t f, b0.heap[p.1]? = some (.cells (Ac ρ p.2).toArray t f)) ∧ p.1 ∉ Mk ∧ Dh n p.2
theorem Yv.mono {c : Dr} {b0 : World} {Mk : List Nat} {ρ σ : Au} {n m : Nat} (h : Yv c b0 Mk ρ n) (ha : Aj n ρ σ) (hn : n ≤ m) : Yv c b0 Mk σ m :=
  ⟨ha.iv ▸ ha.sv ▸ h.v, fun p hp => by
    obtain ⟨⟨t, f, h1⟩, h2, h3⟩ := h.g p hp;exact ⟨⟨t, f, by rw [← Cf ha _ h3]; exact h1⟩, h2, Dh.mono hn _ h3⟩⟩
/-- The slots of an activation. -/
structure Gk (ρ : Au) (D : List Deferred) (s : St) (a : Act) : Prop where
  h : Bl s.N D (Lu ρ s.E) a
  e : Vr s.n s.E
  w : WE s.E
def Wd (s : St) : Prop := ∀ i o, s.blk i = some o → i < s.n ∧ o.lt s.n
/-- What is read of the blocks rs lies in w as it is known. -/
structure Rd (b0 : World) (Mk : List Nat) (ρ : Au) (s : St) (rs : List RE) (w : World) : Prop where
  b : SH b0 Mk [] w
  r : ∀ e ∈ rs, ∀ o, s.blk e.1 = some o → if e.2.2 = 0 then ∃ B, o.is ρ e.1 B ∧ SH b0 Mk B w else ∀ l t f, o = .cells l t f → ∀ j v, e.2.1 ≤ j → j < e.2.2 → Lw l j = some v → w.cell? ⟨ρ.blk e.1, j, none⟩ = some (v.den ρ)
theorem Rd.one {b0 : World} {Mk : List Nat} {ρ : Au} {s : St} {i : Nat} {o : O} {w : World} {rs : List RE} (h : Rd b0 Mk ρ s rs w) (hm : (i, 0, 0) ∈ rs) (ho : s.blk i = some o) : ∃ B, o.is ρ i B ∧ SH b0 Mk B w := by
  have := h.r _ hm o ho;simpa using this
def Yw (P : Program) (ρ : Au) (n : Nat) (a : Act) (w : World) (op : Op) (ty : TypeId) (v : V) : Prop := (execOp a.eval (Bq op ty)).run P w = .ok (.value (v.den ρ)) w ∧ v.lt n

section
variable {c : Dr} {b0 : World} {Mk : List Nat} {ρ : Au} {D : List Deferred} {s : St} {a : Act} {w : World} {ty : TypeId} {v : V} {rs : List RE}
theorem Gk.ev (he : Gk ρ D s a) {x : Operand} {v : V} (h : Fg s.E x = some v) : a.eval x = v.den ρ := he.h.eval (kQ he.w h)
theorem Gk.lt (he : Gk ρ D s a) {x : Operand} {v : V} (h : Fg s.E x = some v) : v.lt s.n := tZ he.e h

theorem Kt {c : Dr} {t : TypeId} {l : List V} {o : Nat} {v : V} (h : Ic c t l o = some v) :
    ((∀ w, (isAgg t).run c.P w = .ok false w) ∧ Lw l o = some v) ∨ ∃ k cs, (∀ w, (isAgg t).run c.P w = .ok true w) ∧ (∀ w, (sizeOf t).run c.P w = .ok k w) ∧ Si l o k = some cs ∧ v = .agg cs := by
  unfold Ic at h;split at h
  · rename_i ha; exact .inl ⟨oG ha, h⟩
  · rename_i ha
    simp only [Ab, Option.some.injEq] at h;obtain ⟨k, hk, cs, hcs, rfl⟩ := h;exact .inr ⟨k, cs, oG ha, Cy hk, hcs, rfl⟩
  · cases h
theorem Ku {n : Nat} {t : TypeId} {l : List V} {o : Nat} {v : V} (hl : Dh n l) (h : Ic c t l o = some v) : v.lt n := by
  rcases Kt h with ⟨_, h⟩ | ⟨k, cs, _, _, h2, rfl⟩
  · exact dJ hl h
  · simp only [V.lt]; exact oH hl h2
theorem aP {g : Nat} : ∀ {G : List (Nat × List V)} {l : List V}, uB g G = some l → (g, l) ∈ G
  | [], l, h => by cases h
  | p :: r, l, h => by
    have h : Be (Nat.beq p.1 g) (some p.2) (uB g r) = some l := h;simp only [Dg, Nat.beq_eq] at h;split at h
    · rename_i hb
      simp only [Option.some.injEq] at h;subst h hb;exact List.mem_cons_self
    · exact List.mem_cons_of_mem _ (aP h)
theorem Od {t : TypeId} {l : List V} {o : Nat} {v : V} (h : Ic c t l o = some v) (b : Nat) (hw : ∀ j u, o ≤ j → j < o + (Ap v).length → Lw l j = some u → w.cell? ⟨b, j, none⟩ = some (u.den ρ))
    (h1 : ∀ u, Lw l o = some u → v = u → w.cell? ⟨b, o, none⟩ = some (u.den ρ)) : (loadVar t ⟨b, o, none⟩).run c.P w = .ok (v.den ρ) w := by
  rcases Kt h with ⟨hA, hv⟩ | ⟨k, cs, hA, hS, hv, rfl⟩
  · have hc := h1 v hv rfl;simp [loadVar, hA, hc]
  · obtain ⟨e1, e2⟩ := Il _ _ _ _ hv;have hl : (loadCells ⟨b, o, none⟩ k).run c.P w = .ok (Ac ρ cs).toArray w := by
      have : (Ac ρ cs).length = k := by rw [Ag]; exact e2
      rw [← this];exact run_loadCells_list w _ _ fun j u hj => by
        rw [Ay];rw [Ez] at hj;cases hg : cs[j]? with
        | none => rw [hg] at hj; cases hj
        | some x =>
          rw [hg] at hj;simp only [Option.map_some, Option.some.injEq] at hj;subst hj;have hlt := (List.getElem?_eq_some_iff.1 hg).1;refine hw (o + j) x z6 (by simp only [Ap]; omega) ?_;rw [Js];rw [e1, List.getElem?_take] at hg;split at hg
          · rw [List.getElem?_drop] at hg; exact hg
          · cases hg
    simp [loadVar, hA, hS, hl, V.den]
theorem oJ (v : V) : (Ap v).length ≤ gQ v ∧ 1 ≤ gQ v := by
  unfold gQ;rw [Dg];split
  · rename_i h; have := Nat.eq_of_beq_eq_true h; exact ⟨by omega, by omega⟩
  · rename_i h; have : ¬ (Ap v).length = 0 := fun e => h (by rw [e]; rfl)
    exact ⟨by omega, by omega⟩
theorem iF (hc : Yv c b0 Mk ρ s.n) (hk : Wd s) {a : V} {l : List V} {o : Nat} {k : Option (Nat × Bool)} (h : Nz c s a = some (l, o, k)) {t : TypeId} {v : V} (hv : Ic c t l o = some v)
    (hb : SH b0 Mk [] w) (hr : ∀ i, k = some (i, false) → ∀ o, s.blk i = some o → ∃ B, o.is ρ i B ∧ SH b0 Mk B w)
    (hq : ∀ i, k = some (i, true) → ∀ l' t' f', s.blk i = some (.cells l' t' f') → ∀ j u, o ≤ j → j < o + gQ v → Lw l' j = some u → w.cell? ⟨ρ.blk i, j, none⟩ = some (u.den ρ)) :
    (∃ p, a.den ρ = .pointer (some p) ∧ (loadVar t p).run c.P w = .ok (v.den ρ) w) ∧ v.lt s.n := by
  cases a with
  | ptr i p =>
    simp only [Nz] at h;split at h
    · rename_i l' t' f' hbk
      simp only [Option.some.injEq, Prod.mk.injEq] at h;obtain ⟨rfl, rfl, rfl⟩ := h;exact ⟨⟨_, rfl, Od hv _ (fun j u h1 h2 h3 => hq i rfl _ _ _ hbk j u h1 (by have := (oJ v).1; omega) h3) (fun u h1 h2 => hq i rfl _ _ _ hbk p u (Nat.le_refl _) (by have := (oJ v).2; omega) h1)⟩, Ku (hk i _ hbk).2 hv⟩
    · cases h
  | optr i p =>
    simp only [Nz] at h;split at h
    · rename_i t' k' xs hbk
      simp only [Option.some.injEq, Prod.mk.injEq] at h;obtain ⟨rfl, rfl, rfl⟩ := h;obtain ⟨B, ⟨Tp, hx, hO⟩, hw⟩ := hr i rfl _ hbk;refine ⟨?_, Ku (Du.2 (hk i _ hbk).2) hv⟩;rcases hO with ⟨h1, rfl, h3⟩ | ⟨r, cur, fz, h1, rfl, hfz, h2, h3, h4⟩
      · have : xs = [] := by simpa using h3
        subst this;simp only [Dj] at hv;refine ⟨ea (ρ.own i).1 p, rfl, ?_⟩;rcases Kt hv with ⟨hA, hv⟩ | ⟨k, cs, hA, hS, hv2, rfl⟩
        · rw [Js] at hv; simp at hv
        · obtain ⟨e1, e2⟩ := Il _ _ _ _ hv2;simp at e1; subst e1;simp at e2; subst e2;simp [loadVar, hA, hS, V.den, Ac, loadCells, loadCellsFrom]
      · have hm : (r, Obj.cells cur t' fz) ∈ [(r, Obj.cells cur t' fz)] := List.mem_cons_self;have hb0 := hw.own _ hm;simp only at hb0;have hflat : Cw (Ue k') (xs.map (Ac ρ)) = Ac ρ (Aw xs) := by
          rw [Ef]; unfold Cw;congr 1;rw [List.map_map];refine List.map_congr_left fun x hxm => ?_
          obtain ⟨e1, e2⟩ := hx x hxm;exact Sh (by rw [Ag]; exact e1) e2
        rw [hflat] at h4;have hcell : ∀ j u, Lw (Aw xs) j = some u → w.cell? ⟨r, j, none⟩ = some (u.den ρ) := fun j u hj => by
          have hj : (Ac ρ (Aw xs))[j]? = some (u.den ρ) := by rw [Ez, ← Js, hj]; rfl
          rw [← h4, List.getElem?_take] at hj;split at hj
          · simp only [World.cell?, hb0]; simpa using hj
          · cases hj
        have he : (V.optr i p).den ρ = .pointer (some ⟨r, p, none⟩) := by simp [V.den, h1, ea]
        exact ⟨_, he, Od hv _ (fun j u _ _ h => hcell j u h) (fun u h _ => hcell p u h)⟩
    · cases h
  | raw x =>
    unfold Nz at h;split at h
    · rename_i hh; cases hh
    · rename_i hh; cases hh
    · rename_i g o' hh
      cases hh
      simp only [Ab, Option.some.injEq, Prod.mk.injEq] at h;obtain ⟨l', hg, rfl, rfl, rfl⟩ := h;obtain ⟨⟨t', f', hbg⟩, hM, hlt⟩ := hc.g _ (aP hg);have ho := hb.base hbg hM;simp only at hbg hlt ho;have hcell : ∀ j u, Lw l' j = some u → w.cell? ⟨g, j, none⟩ = some (u.den ρ) := fun j u hj => by
        have := Jc (ρ := ρ) hj;rw [Em] at this;simp [World.cell?, ho, this]
      exact ⟨⟨_, rfl, Od hv _ (fun j u _ _ h => hcell j u h) (fun u h _ => hcell o' u h)⟩, Ku hlt hv⟩
    · cases h
  | _ => simp [Nz] at h
theorem vM (hc : Yv c b0 Mk ρ s.n) (hk : Wd s) (he : Gk ρ D s a) {t : TypeId} {x : Operand} (h : uM c s t x = some (v, rs)) (hr : Rd b0 Mk ρ s rs w) : Yw c.P ρ s.n a w (.load t x) ty v := by
  simp only [uM, Ab, Option.some.injEq, Prod.mk.injEq] at h;obtain ⟨u, hu, ⟨l, o, k⟩, hp, v', hv, rfl, rfl⟩ := h;obtain ⟨⟨p, h1, h2⟩, h3⟩ := iF (w := w) hc hk hp hv hr.b (fun i hi o' ho' => by
    subst hi;exact hr.one (by simp [qH]) ho') (fun i hi l' t' f' hb j u' hj1 hj2 hn => by
    subst hi;have := hr.r (i, o, o + gQ v') (by simp [qH]) _ hb;simp only at this;split at this
    · obtain ⟨B, rfl, hw⟩ := this;exact hw.cell List.mem_cons_self (by rw [← Em]; exact Jc hn)
    · exact this _ _ _ rfl j u' hj1 hj2 hn)
  refine ⟨?_, h3⟩;simp [Bq, execOp, he.ev hu, h1, Instr.loadAt, Instr.sureAddr, h2]
theorem D6 (he : Gk ρ D s a) {x : Operand} (h : R9 s x = some (v, rs)) : Yw c.P ρ s.n a w (.nilCheck x) ty v := by
  simp only [R9, Ab] at h;obtain ⟨u, hu, h⟩ := h;have hlt := he.lt hu;have hev := he.ev hu;unfold Yw;split at h <;> first
    | (cases h; done)
    | (simp only [qv, Option.some.injEq, Prod.mk.injEq] at h; obtain ⟨rfl, rfl⟩ := h; refine ⟨?_, hlt⟩; simp [Bq, execOp, hev, V.den])
end
end Go.Proofs.YtbooaoddioibeaaGreatDoor.Jd

