/- Part of the proofs of this seat: walks and plain facts. No condition. -/
import Derived.Test.YtdnjanhdnibkfaaGreatDoorF0
import Derived.Test.YtdnjanhdnibkfaaGreatDoorProg
import Derived.Test.YtdnjanhdnibkfaaGreatDoorChecked
import Derived.WalkKit
import Derived.LaidEql
import Derived.Stop.Asserts
import Derived.RowKitTokens
import Derived.Test.YtdnjanhdnibkfaaGreatDoorF2
import Derived.Test.YtdnjanhdnibkfaaGreatDoorF1
namespace Go.Proofs.YtdnjanhdnibkfaaGreatDoor.Jd
open Go.Proofs.Tryz
open Go.Proofs
open Go.RowKit (Below)
set_option maxRecDepth 100000
set_option maxHeartbeats 8000000
set_option linter.unusedVariables false
set_option linter.unusedSimpArgs false
theorem Vn : Ba Tryz.prog 169 0 0 := fun r k w => by simp [Instr.fieldAt, Instr.sureAddr, fieldPlace, Ao]
theorem AE3 : gE Tryz.prog 166 [(0, 1), (1, 1), (2, 1), (3, 1), (4, 1), (5, 1), (6, 1), (7, 1)] := ⟨_, _, _, fun w => runUnderlying166 w, fun w => sizeOf164 w, fun i q h => by
 have hi : i < 8 := by simpa using (List.getElem?_eq_some_iff.1 h).1
 (iterate 8 (rcases i with _ | i; · simpa using h.symm))
 omega⟩
theorem AE4 : Ej Tryz.prog 169 [(0, 8)] := ⟨_, fun w => runUnderlying169 w, fun w => by simp⟩
theorem AE5 : gE Tryz.prog 337 [(0, 1), (1, 1)] := ⟨_, _, _, fun w => runUnderlying337 w, fun w => sizeOf335 w, fun i q h => by
 have hi : i < 2 := by simpa using (List.getElem?_eq_some_iff.1 h).1
 (iterate 2 (rcases i with _ | i; · simpa using h.symm))
 omega⟩
theorem Oo : Ty Tryz.prog 5 1 1 (Value.int .u8 0) := ⟨⟨Tryz.t5, by kernel_rfl, rfl, rfl, rfl⟩, rfl⟩
theorem O4 (w : World) {x : Int} {k : Int} : Gz Tryz.prog 266 [(Value.int .u32 x), (vi k)] w (Value.int .u32 (AE0 x k)) := by
 have hF := Is.refl (AE0 x k)
 refine enter func266 ntmps266 (h := ?_)
 refine Mq ?_
 refine Ad (Js rfl runUnderlying3 runUnderlying175) (k := ?_)
 refine Ad Kw (k := ?_)
 refine Ew ?_
 refine Ad (nI (h := by exact O0 _ _)) (k := ?_)
 refine Qi ?_
 refine Ad xE (k := ?_)
 refine Ad (Nu (h := by exact kM _)) (k := ?_)
 refine Ad aW (k := ?_)
 refine Z5 ?_
 refine Ac results266 z1 (fun w1 hw1 => ?_)
 exact ⟨(rq hF), hw1.ext_out⟩

theorem Pw (w : World) {w_ : Int} {n_ : Int} : Gz Tryz.prog 250 [(Value.int .u32 w_), (vi n_)] w (Value.int .u32 (gK w_ n_)) := by
 have hF := Is.refl (gK w_ n_)
 refine enter func250 ntmps250 (h := ?_)
 refine Z2 ?_
 refine Ew ?_
 refine Ad AD7 (k := ?_)
 refine Co (Aa call266) (fun w1 hw1 => O4 w1 (x := w_) (k := (IntKind.wrap .i64 (0 - n_)))) (k := ?_)
 refine Z5 ?_
 refine Ac results250 z1 (fun w1 hw1 => ?_)
 exact ⟨(rq hF), hw1.ext_out⟩

theorem pQ (w : World) {w_ : Int} {a : Int} {b : Int} {c : Int} : Gz Tryz.prog 249 [(Value.int .u32 w_), (vi a), (vi b), (vi c)] w (Value.int .u32 (N7 w_ a b c)) := by
 have hF := Is.refl (N7 w_ a b c)
 refine enter func249 ntmps249 (h := ?_)
 refine Z2 ?_
 refine Ew ?_
 refine Co (Aa call250) (fun w1 hw1 => Pw w1 (w_ := w_) (n_ := a)) (k := ?_)
 refine Qi ?_
 refine Co (Aa call250) (fun w1 hw1 => Pw w1 (w_ := w_) (n_ := b)) (k := ?_)
 refine aB ?_
 refine Qi ?_
 refine Co (Aa call250) (fun w1 hw1 => Pw w1 (w_ := w_) (n_ := c)) (k := ?_)
 refine aB ?_
 refine Z5 ?_
 refine Ac results249 z1 (fun w1 hw1 => ?_)
 exact ⟨(rq hF), hw1.ext_out⟩

theorem yM (w : World) {w_ : Int} : Gz Tryz.prog 204 [(Value.int .u32 w_)] w (Value.int .u32 (pI w_)) := by
 have hF := Is.refl (pI w_)
 refine enter func204 ntmps204 (h := ?_)
 refine Mq ?_
 refine Co (Aa call250) (fun w1 hw1 => Pw w1 (w_ := w_) (n_ := 7)) (k := ?_)
 refine Cg ?_
 refine Co (Aa call250) (fun w1 hw1 => Pw w1 (w_ := w_) (n_ := 18)) (k := ?_)
 refine aB ?_
 refine Cg ?_
 refine Ad Nu (k := ?_)
 refine aB ?_
 refine Z5 ?_
 refine Ac results204 z1 (fun w1 hw1 => ?_)
 exact ⟨(rq hF), hw1.ext_out⟩

theorem yN (w : World) {w_ : Int} : Gz Tryz.prog 205 [(Value.int .u32 w_)] w (Value.int .u32 (pJ w_)) := by
 have hF := Is.refl (pJ w_)
 refine enter func205 ntmps205 (h := ?_)
 refine Mq ?_
 refine Co (Aa call250) (fun w1 hw1 => Pw w1 (w_ := w_) (n_ := 17)) (k := ?_)
 refine Cg ?_
 refine Co (Aa call250) (fun w1 hw1 => Pw w1 (w_ := w_) (n_ := 19)) (k := ?_)
 refine aB ?_
 refine Cg ?_
 refine Ad Nu (k := ?_)
 refine aB ?_
 refine Z5 ?_
 refine Ac results205 z1 (fun w1 hw1 => ?_)
 exact ⟨(rq hF), hw1.ext_out⟩

theorem sT (w : World) {w_ : Int} : Gz Tryz.prog 203 [(Value.int .u32 w_)] w (Value.int .u32 (gL w_)) := by
 have hF := Is.refl (gL w_)
 refine enter func203 ntmps203 (h := ?_)
 refine Mq ?_
 refine Co (Aa call249) (fun w1 hw1 => pQ w1 (w_ := w_) (a := 2) (b := 13) (c := 22)) (k := ?_)
 refine Z5 ?_
 refine Ac results203 z1 (fun w1 hw1 => ?_)
 exact ⟨(rq hF), hw1.ext_out⟩

theorem sU (w : World) {w_ : Int} : Gz Tryz.prog 202 [(Value.int .u32 w_)] w (Value.int .u32 (Wp w_)) := by
 have hF := Is.refl (Wp w_)
 refine enter func202 ntmps202 (h := ?_)
 refine Mq ?_
 refine Co (Aa call249) (fun w1 hw1 => pQ w1 (w_ := w_) (a := 6) (b := 11) (c := 25)) (k := ?_)
 refine Z5 ?_
 refine Ac results202 z1 (fun w1 hw1 => ?_)
 exact ⟨(rq hF), hw1.ext_out⟩

theorem sV (w : World) {b : Ai} (hb : b.length = 64) : Gz Tryz.prog 151 [(vt b)] w (Value.agg (aI .u32 (Pq b)).toArray) := by
 have hF := Is.refl (Pq b)
 refine enter func151 ntmps151 (h := ?_)
 refine Z2 ?_
 refine Aj Ae (Bz (l := aI .u32 (List.replicate 64 (0 : Int))) zeroValue245 z6) (k := fun r1 hr1 => ?_)
 have hrlr1 := List.length_replicate (n := 64) (a := (0 : Int))
 refine Qn ?_
 refine Aj Ae (Bz (l := aI .u32 (List.replicate 64 (0 : Int))) zeroValue245 z6) (k := fun r2 hr2 => ?_)
 have hrlr2 := List.length_replicate (n := 64) (a := (0 : Int))
 refine Jk ?_
 refine Z3 ?_
 refine Kt ?_
 refine Kb (σ1 := Nat) (σ2 := Nat) (σ3 := List Int) (fun n_3 x_1 x_2 => ((r2, Obj.cells (aI .u32 x_2).toArray 245) :: ((r1, Obj.cells (aI .u32 (List.replicate 64 (0 : Int))).toArray 245) :: []))) (fun n_3 x_1 x_2 => [(0, (vt b)), (2, (Value.pointer (some ⟨r1, 0, none⟩))), (3, (Value.pointer (some ⟨r2, 0, none⟩))), (7, (vi ((x_1 : Nat) : Int)))]) (fun n_3 x_1 x_2 => 64 - x_1 < n_3 ∧ Is (Jw b (64 + 1) 0 (List.replicate 64 (0 : Int))) (Jw b n_3 x_1 x_2) ∧ x_2.length = 64 ∧ x_1 ≤ 64) (fun n_3 x_1 x_2 => n_3) (64 + 1) 0 (List.replicate 64 (0 : Int)) ?_ se (List.Perm.refl _) ?_
 ·exact ⟨Nat.lt_succ_self _, Is.refl _, Da, Qc⟩
 ·rintro (_ | n_3) x_1 x_2 ⟨hm5, hF4, hx_2, hi6⟩
  ·omega
  refine Tx ?_
  refine Bd rfl (fun hq1 => ?_) (fun hq1 => ?_)
  rotate_left
  ·refine Cu ?_
   refine Kg ?_
   refine Z2 ?_
   refine Ad (xI (xs := x_2) isAgg245 sizeOf245 Da) (k := ?_)
   refine Eh (sJ (xs := (List.replicate 64 (0 : Int))) (ys := x_2) sizeOf245 Da Da) (k := ?_)
   refine eQ ?_
   refine Ac results151 (Bk.agg isAgg245 sizeOf245 rfl me (pH (l := aI .u32 x_2) (by rw [Fu]; first | exact ix)) Bk.nil) (fun w1 hw1 => ?_)
   exact ⟨(rq (hF.rn2 (hF4.neg hq1))), hw1.ext_out⟩
  refine Qd ?_
  refine Vx ?_
  refine Hc ?_
  refine Z8 ?_
  refine Bd rfl (fun hq2 => ?_) (fun hq2 => ?_)
  rotate_left
  ·refine Br ?_
   refine Gv ?_
   refine Dw mixed 23 [(true, 0), (true, 1), (true, 2), (true, 3), (true, 4), (true, 5), (true, 6), (true, 7), (true, 8), (true, 11), (true, 12), (true, 13), (true, 14), (true, 16), (true, 17), (true, 18), (true, 19), (false, 9), (true, 10), (true, 15), (false, 20), (true, 21), (true, 22)] z6 ?_
   refine Mp ?_
   refine Ay Xf (k := ?_)
   refine Ay (Nw ((((x_1 : Nat) : Int) - 16).toNat) ((((x_1 : Nat) : Int) - 16).toNat) runUnderlying245 sizeOf164 (hm := Da)) (k := ?_)
   refine Ay (Pl (m := ((((x_1 : Nat) : Int) - 16).toNat)) (xs := x_2) isAgg164 Da) (k := ?_)
   refine Fi ?_
   refine Ay Xf (k := ?_)
   refine Ay (Nw ((((x_1 : Nat) : Int) - 15).toNat) ((((x_1 : Nat) : Int) - 15).toNat) runUnderlying245 sizeOf164 (hm := Da)) (k := ?_)
   refine Ay (Pl (m := ((((x_1 : Nat) : Int) - 15).toNat)) (xs := x_2) isAgg164 Da) (k := ?_)
   refine Fi ?_
   refine Ay Xf (k := ?_)
   refine Ay (Nw ((((x_1 : Nat) : Int) - 7).toNat) ((((x_1 : Nat) : Int) - 7).toNat) runUnderlying245 sizeOf164 (hm := Da)) (k := ?_)
   refine Ay (Pl (m := ((((x_1 : Nat) : Int) - 7).toNat)) (xs := x_2) isAgg164 Da) (k := ?_)
   refine Fi ?_
   refine Ay Xf (k := ?_)
   refine Ay (Nw ((((x_1 : Nat) : Int) - 2).toNat) ((((x_1 : Nat) : Int) - 2).toNat) runUnderlying245 sizeOf164 (hm := Da)) (k := ?_)
   refine Ay (Pl (m := ((((x_1 : Nat) : Int) - 2).toNat)) (xs := x_2) isAgg164 Da) (k := ?_)
   refine Tm (Aa call204) (fun w1 hw1 => yM w1 (w_ := (x_2.getD ((((x_1 : Nat) : Int) - 15).toNat) default))) (k := ?_)
   refine Ay Nt (k := ?_)
   refine Ay Nt (k := ?_)
   refine Tm (Aa call205) (fun w1 hw1 => yN w1 (w_ := (x_2.getD ((((x_1 : Nat) : Int) - 2).toNat) default))) (k := ?_)
   refine Ay Nt (k := ?_)
   refine Ay (Nw x_1 x_1 runUnderlying245 sizeOf164 (hm := Da)) (k := ?_)
   refine Lh ?_
   refine Eh (kD (m := x_1) (xs := x_2) sizeOf164 Da) (k := ?_)
   refine fD ?_
   exact Gt n_3 (x_1 + 1) (x_2.set x_1 (IntKind.u32.wrap ((IntKind.u32.wrap ((IntKind.u32.wrap ((x_2.getD ((((x_1 : Nat) : Int) - 16).toNat) default) + (pI (x_2.getD ((((x_1 : Nat) : Int) - 15).toNat) default)))) + (x_2.getD ((((x_1 : Nat) : Int) - 7).toNat) default))) + (pJ (x_2.getD ((((x_1 : Nat) : Int) - 2).toNat) default))))) ⟨by omega, ((hF4.pos hq1).neg hq2), Da, z8⟩ (Nat.lt_succ_self _) se (List.Perm.refl _)
  refine Ez ?_
  refine Qp ?_
  refine Ad dN (k := ?_)
  refine Cg ?_
  refine Ad dN (k := ?_)
  refine Wg ?_
  refine Ad (AD1 (s := b) (4 * x_1) ((4 * x_1) + 4) runUnderlying9 z8 z8) (k := ?_)
  have hsb3 : ((b.take ((4 * x_1) + 4)).drop (4 * x_1)).length = ((4 * x_1) + 4) - (4 * x_1) := by first | omega | (simp only [List.length_take, List.length_drop, List.length_cons, List.length_nil] <;> omega)
  refine kF (s := ((b.take ((4 * x_1) + 4)).drop (4 * x_1))) underlying9 underlying174 underlying5 (k := fun ax1 cx1 Bx1 hox1 => ?_)
  have hbl1 := Ce (s := ((b.take ((4 * x_1) + 4)).drop (4 * x_1)))
  refine Ad (Dg runUnderlying174) (k := ?_)
  refine Lt ?_
  refine Kb (σ1 := Nat) (σ2 := Nat) (σ3 := List Int) (fun n_9 x_7 x_8 => (Bx1 ++ ((r2, Obj.cells (aI .u32 x_8).toArray 245) :: ((r1, Obj.cells (aI .u32 (List.replicate 64 (0 : Int))).toArray 245) :: [])))) (fun n_9 x_7 x_8 => [(0, (vt b)), (2, (Value.pointer (some ⟨r1, 0, none⟩))), (3, (Value.pointer (some ⟨r2, 0, none⟩))), (4, (vi ((x_1 : Nat) : Int))), (7, (vi ((x_1 : Nat) : Int))), (19, (vs ax1 ((Je ((b.take ((4 * x_1) + 4)).drop (4 * x_1))).length) cx1)), (20, (vi ((((Je ((b.take ((4 * x_1) + 4)).drop (4 * x_1))).length) : Nat) : Int))), (21, (vi ((x_7 : Nat) : Int)))]) (fun n_9 x_7 x_8 => ((Je ((b.take ((4 * x_1) + 4)).drop (4 * x_1))).length) - x_7 < n_9 ∧ Is (Ll b x_1 x_2 (((Je ((b.take ((4 * x_1) + 4)).drop (4 * x_1))).length) + 1) 0 x_2) (Ll b x_1 x_2 n_9 x_7 x_8) ∧ x_8.length = 64) (fun n_9 x_7 x_8 => n_9) (((Je ((b.take ((4 * x_1) + 4)).drop (4 * x_1))).length) + 1) 0 x_2 ?_ se (List.Perm.refl _) ?_
  ·exact ⟨Nat.lt_succ_self _, Is.refl _, Da⟩
  ·rintro (_ | n_9) x_7 x_8 ⟨hm11, hF10, hx_8⟩
   ·omega
   refine Tx ?_
   refine Bd rfl (fun hq3 => ?_) (fun hq3 => ?_)
   rotate_left
   ·refine Cu ?_
    refine Kg ?_
    refine Cu ?_
    refine Fw ?_
    refine iZ ?_
    refine Dn ?_
    refine Z6 ?_
    refine Ef ?_
    refine Dj _ ((qc (qa q0)).trans (qa (qc q0))) ?_
    refine AB5 ?_
    exact Gt n_3 (x_1 + 1) x_8 ⟨by omega, (((hF4.pos hq1).pos hq2).rn2 (hF10.neg hq3)), Da, z8⟩ (Nat.lt_succ_self _) se (List.Perm.refl _)
   refine aA ?_
   refine Ad (Dl (n := (Je ((b.take ((4 * x_1) + 4)).drop (4 * x_1))).length) runUnderlying174 sizeOf5 x_7 (hox1.slj Bm) (gD Da) Lp) (k := ?_)
   refine Ad (Cr isAgg5 x_7 0 (hox1.slj Bm) (gD Da)) (k := ?_)
   refine Z1 ?_
   refine Sv ?_
   refine Ad (Nw x_1 x_1 runUnderlying245 sizeOf164 (hm := Da)) (k := ?_)
   refine Ad (Pl (m := x_1) (xs := x_8) isAgg164 Da) (k := ?_)
   refine vQ ?_
   refine Ad (Js rfl runUnderlying5 runUnderlying164) (k := ?_)
   refine Ad aW (k := ?_)
   refine Ad (Nw x_1 x_1 runUnderlying245 sizeOf164 (hm := Da)) (k := ?_)
   refine Eh (kD (m := x_1) (xs := x_8) sizeOf164 Da) (k := ?_)
   refine fD ?_
   exact Gt n_9 (x_7 + 1) (x_8.set x_1 (jZ .u32 (Ym .u32 (x_8.getD x_1 default) 8) (IntKind.u32.wrap ((Je ((b.take ((4 * x_1) + 4)).drop (4 * x_1))).getD x_7 default)))) ⟨by omega, (hF10.pos hq3), Da⟩ (Nat.lt_succ_self _) se (List.Perm.refl _)

theorem O5 (w : World) {s : Ai} (n_s : s.length ≤ 10000000) : Gz Tryz.prog 96 [(vt s)] w (vt (kJ s)) := by
 have hF := Is.refl (kJ s)
 refine enter func96 ntmps96 (h := ?_)
 refine J5 ?_
 refine Ad dN (k := ?_)
 refine Mu ?_
 refine kF (s := s) underlying9 underlying174 underlying5 (k := fun ax1 cx1 Bx1 hox1 => ?_)
 have hbl1 := Ce (s := s)
 refine Aj Ae tV (k := fun r1 hr1 => ?_)
 refine Ar ((Je s) ++ ([128] : List Int)) rfl Oo underlying174 Bm hox1 (qb q0) (Ch.lit (xs := ([128] : List Int)) Bm) ⟨by omega, by omega⟩ (n := (Je s).length) (m := 1) (k := fun ax2 cx2 Bx2 hox2 => ?_)
 have hal2 : ((Je s) ++ ([128] : List Int)).length = (Je s).length + 1 := by first | rfl | exact List.length_append | simp
 refine Z1 ?_
 refine qM ?_
 refine Uj (σ1 := Nat) (σ2 := List Int) (σ3 := Option Addr) (σ4 := Nat) (σ5 := Am) (fun n_2 out_1 out_1a out_1c out_1B => (out_1B ++ ((r1, oc [(Value.int .u8 128)] 5) :: []))) (fun n_2 out_1 out_1a out_1c out_1B => [(2, (vt ([] : Ai))), (3, (vi (((s.length : Nat) : Int) * 8))), (4, (vs out_1a out_1.length out_1c))]) (fun n_2 out_1 out_1a out_1c out_1B => (120 - out_1.length % 64) % 64 < n_2 ∧ Is (Yz s ((120 - ((Je s) ++ ([128] : List Int)).length % 64) % 64 + 1) ((Je s) ++ ([128] : List Int))) (Yz s n_2 out_1) ∧ Bi Xk 1 5 out_1a out_1c out_1B out_1 ∧ out_1.length + (120 - out_1.length % 64) % 64 ≤ s.length + 64) (fun n_2 out_1 out_1a out_1c out_1B => n_2) ((120 - ((Je s) ++ ([128] : List Int)).length % 64) % 64 + 1) ((Je s) ++ ([128] : List Int)) ax2 cx2 Bx2 ?_ se (List.Perm.refl _) ?_
 ·exact ⟨Nat.lt_succ_self _, Is.refl _, hox2, Qc⟩
 ·rintro (_ | n_2) out_1 out_1a out_1c out_1B ⟨hm4, hF3, hout_1, hi5⟩
  ·omega
  refine vC ?_
  refine Ad (Dg runUnderlying174) (k := ?_)
  refine Ad T8 (k := ?_)
  refine mL ?_
  refine Bd rfl (fun hq1 => ?_) (fun hq1 => ?_)
  ·refine Br ?_
   refine Gv ?_
   refine Fm ?_
   refine Lq ?_
   refine Aj Ae tV (k := fun r2 hr2 => ?_)
   refine Ar (out_1 ++ ([0] : List Int)) rfl Oo underlying174 Bm hout_1 (qb q0) (Ch.lit (xs := ([0] : List Int)) Bm) ⟨by omega, by omega⟩ (n := out_1.length) (m := 1) (k := fun ax3 cx3 Bx3 hox3 => ?_)
   have hal3 : (out_1 ++ ([0] : List Int)).length = out_1.length + 1 := by first | rfl | exact List.length_append | simp
   refine Mo ?_
   refine Eu ?_
   refine Dj _ ((qc (qa q0)).trans (qb q0)) ?_
   refine Cc _ (List.Sublist.append Xw (List.Sublist.cons_cons _ Mt)) ?_
   exact Uk n_2 (out_1 ++ ([0] : List Int)) ax3 cx3 Bx3 ⟨by omega, (hF3.pos hq1), hox3, z8⟩ (Nat.lt_succ_self _) se (List.Perm.refl _)
  refine Cu ?_
  refine Kg ?_
  refine Ez ?_
  refine Z2 ?_
  refine Z1 ?_
  refine Fm ?_
  refine aU ?_
  refine E4 ?_
  refine A9 ?_
  refine cN ?_
  refine iL ?_
  refine Aj Ae tV (k := fun r3 hr3 => ?_)
  refine Ar (out_1 ++ ([(IntKind.u8.wrap (Ab .i64 (((s.length : Nat) : Int) * 8) 56))] : List Int)) rfl Oo underlying174 Bm hout_1 (qb q0) (Ch.lit (xs := ([(IntKind.u8.wrap (Ab .i64 (((s.length : Nat) : Int) * 8) 56))] : List Int)) Bm) ⟨by omega, by omega⟩ (n := out_1.length) (m := 1) (k := fun ax4 cx4 Bx4 hox4 => ?_)
  have hal4 : (out_1 ++ ([(IntKind.u8.wrap (Ab .i64 (((s.length : Nat) : Int) * 8) 56))] : List Int)).length = out_1.length + 1 := by first | rfl | exact List.length_append | simp
  refine Mo ?_
  refine Yh ?_
  refine A9 ?_
  refine cN ?_
  refine iL ?_
  refine Aj Ae tV (k := fun r4 hr4 => ?_)
  refine Ar ((out_1 ++ ([(IntKind.u8.wrap (Ab .i64 (((s.length : Nat) : Int) * 8) 56))] : List Int)) ++ ([(IntKind.u8.wrap (Ab .i64 (((s.length : Nat) : Int) * 8) 48))] : List Int)) rfl Oo underlying174 Bm hox4 (qb q0) (Ch.lit (xs := ([(IntKind.u8.wrap (Ab .i64 (((s.length : Nat) : Int) * 8) 48))] : List Int)) Bm) ⟨by omega, by omega⟩ (n := (out_1 ++ ([(IntKind.u8.wrap (Ab .i64 (((s.length : Nat) : Int) * 8) 56))] : List Int)).length) (m := 1) (k := fun ax5 cx5 Bx5 hox5 => ?_)
  have hal5 : ((out_1 ++ ([(IntKind.u8.wrap (Ab .i64 (((s.length : Nat) : Int) * 8) 56))] : List Int)) ++ ([(IntKind.u8.wrap (Ab .i64 (((s.length : Nat) : Int) * 8) 48))] : List Int)).length = (out_1 ++ ([(IntKind.u8.wrap (Ab .i64 (((s.length : Nat) : Int) * 8) 56))] : List Int)).length + 1 := by first | rfl | exact List.length_append | simp
  refine Mo ?_
  refine Yh ?_
  refine A9 ?_
  refine cN ?_
  refine iL ?_
  refine Aj Ae tV (k := fun r5 hr5 => ?_)
  refine Ar (((out_1 ++ ([(IntKind.u8.wrap (Ab .i64 (((s.length : Nat) : Int) * 8) 56))] : List Int)) ++ ([(IntKind.u8.wrap (Ab .i64 (((s.length : Nat) : Int) * 8) 48))] : List Int)) ++ ([(IntKind.u8.wrap (Ab .i64 (((s.length : Nat) : Int) * 8) 40))] : List Int)) rfl Oo underlying174 Bm hox5 (qb q0) (Ch.lit (xs := ([(IntKind.u8.wrap (Ab .i64 (((s.length : Nat) : Int) * 8) 40))] : List Int)) Bm) ⟨by omega, by omega⟩ (n := ((out_1 ++ ([(IntKind.u8.wrap (Ab .i64 (((s.length : Nat) : Int) * 8) 56))] : List Int)) ++ ([(IntKind.u8.wrap (Ab .i64 (((s.length : Nat) : Int) * 8) 48))] : List Int)).length) (m := 1) (k := fun ax6 cx6 Bx6 hox6 => ?_)
  have hal6 : (((out_1 ++ ([(IntKind.u8.wrap (Ab .i64 (((s.length : Nat) : Int) * 8) 56))] : List Int)) ++ ([(IntKind.u8.wrap (Ab .i64 (((s.length : Nat) : Int) * 8) 48))] : List Int)) ++ ([(IntKind.u8.wrap (Ab .i64 (((s.length : Nat) : Int) * 8) 40))] : List Int)).length = ((out_1 ++ ([(IntKind.u8.wrap (Ab .i64 (((s.length : Nat) : Int) * 8) 56))] : List Int)) ++ ([(IntKind.u8.wrap (Ab .i64 (((s.length : Nat) : Int) * 8) 48))] : List Int)).length + 1 := by first | rfl | exact List.length_append | simp
  refine Mo ?_
  refine Yh ?_
  refine A9 ?_
  refine cN ?_
  refine iL ?_
  refine Aj Ae tV (k := fun r6 hr6 => ?_)
  refine Ar ((((out_1 ++ ([(IntKind.u8.wrap (Ab .i64 (((s.length : Nat) : Int) * 8) 56))] : List Int)) ++ ([(IntKind.u8.wrap (Ab .i64 (((s.length : Nat) : Int) * 8) 48))] : List Int)) ++ ([(IntKind.u8.wrap (Ab .i64 (((s.length : Nat) : Int) * 8) 40))] : List Int)) ++ ([(IntKind.u8.wrap (Ab .i64 (((s.length : Nat) : Int) * 8) 32))] : List Int)) rfl Oo underlying174 Bm hox6 (qb q0) (Ch.lit (xs := ([(IntKind.u8.wrap (Ab .i64 (((s.length : Nat) : Int) * 8) 32))] : List Int)) Bm) ⟨by omega, by omega⟩ (n := (((out_1 ++ ([(IntKind.u8.wrap (Ab .i64 (((s.length : Nat) : Int) * 8) 56))] : List Int)) ++ ([(IntKind.u8.wrap (Ab .i64 (((s.length : Nat) : Int) * 8) 48))] : List Int)) ++ ([(IntKind.u8.wrap (Ab .i64 (((s.length : Nat) : Int) * 8) 40))] : List Int)).length) (m := 1) (k := fun ax7 cx7 Bx7 hox7 => ?_)
  have hal7 : ((((out_1 ++ ([(IntKind.u8.wrap (Ab .i64 (((s.length : Nat) : Int) * 8) 56))] : List Int)) ++ ([(IntKind.u8.wrap (Ab .i64 (((s.length : Nat) : Int) * 8) 48))] : List Int)) ++ ([(IntKind.u8.wrap (Ab .i64 (((s.length : Nat) : Int) * 8) 40))] : List Int)) ++ ([(IntKind.u8.wrap (Ab .i64 (((s.length : Nat) : Int) * 8) 32))] : List Int)).length = (((out_1 ++ ([(IntKind.u8.wrap (Ab .i64 (((s.length : Nat) : Int) * 8) 56))] : List Int)) ++ ([(IntKind.u8.wrap (Ab .i64 (((s.length : Nat) : Int) * 8) 48))] : List Int)) ++ ([(IntKind.u8.wrap (Ab .i64 (((s.length : Nat) : Int) * 8) 40))] : List Int)).length + 1 := by first | rfl | exact List.length_append | simp
  refine Mo ?_
  refine Yh ?_
  refine A9 ?_
  refine cN ?_
  refine iL ?_
  refine Aj Ae tV (k := fun r7 hr7 => ?_)
  refine Ar (((((out_1 ++ ([(IntKind.u8.wrap (Ab .i64 (((s.length : Nat) : Int) * 8) 56))] : List Int)) ++ ([(IntKind.u8.wrap (Ab .i64 (((s.length : Nat) : Int) * 8) 48))] : List Int)) ++ ([(IntKind.u8.wrap (Ab .i64 (((s.length : Nat) : Int) * 8) 40))] : List Int)) ++ ([(IntKind.u8.wrap (Ab .i64 (((s.length : Nat) : Int) * 8) 32))] : List Int)) ++ ([(IntKind.u8.wrap (Ab .i64 (((s.length : Nat) : Int) * 8) 24))] : List Int)) rfl Oo underlying174 Bm hox7 (qb q0) (Ch.lit (xs := ([(IntKind.u8.wrap (Ab .i64 (((s.length : Nat) : Int) * 8) 24))] : List Int)) Bm) ⟨by omega, by omega⟩ (n := ((((out_1 ++ ([(IntKind.u8.wrap (Ab .i64 (((s.length : Nat) : Int) * 8) 56))] : List Int)) ++ ([(IntKind.u8.wrap (Ab .i64 (((s.length : Nat) : Int) * 8) 48))] : List Int)) ++ ([(IntKind.u8.wrap (Ab .i64 (((s.length : Nat) : Int) * 8) 40))] : List Int)) ++ ([(IntKind.u8.wrap (Ab .i64 (((s.length : Nat) : Int) * 8) 32))] : List Int)).length) (m := 1) (k := fun ax8 cx8 Bx8 hox8 => ?_)
  have hal8 : (((((out_1 ++ ([(IntKind.u8.wrap (Ab .i64 (((s.length : Nat) : Int) * 8) 56))] : List Int)) ++ ([(IntKind.u8.wrap (Ab .i64 (((s.length : Nat) : Int) * 8) 48))] : List Int)) ++ ([(IntKind.u8.wrap (Ab .i64 (((s.length : Nat) : Int) * 8) 40))] : List Int)) ++ ([(IntKind.u8.wrap (Ab .i64 (((s.length : Nat) : Int) * 8) 32))] : List Int)) ++ ([(IntKind.u8.wrap (Ab .i64 (((s.length : Nat) : Int) * 8) 24))] : List Int)).length = ((((out_1 ++ ([(IntKind.u8.wrap (Ab .i64 (((s.length : Nat) : Int) * 8) 56))] : List Int)) ++ ([(IntKind.u8.wrap (Ab .i64 (((s.length : Nat) : Int) * 8) 48))] : List Int)) ++ ([(IntKind.u8.wrap (Ab .i64 (((s.length : Nat) : Int) * 8) 40))] : List Int)) ++ ([(IntKind.u8.wrap (Ab .i64 (((s.length : Nat) : Int) * 8) 32))] : List Int)).length + 1 := by first | rfl | exact List.length_append | simp
  refine Mo ?_
  refine Yh ?_
  refine A9 ?_
  refine cN ?_
  refine iL ?_
  refine Aj Ae tV (k := fun r8 hr8 => ?_)
  refine Ar ((((((out_1 ++ ([(IntKind.u8.wrap (Ab .i64 (((s.length : Nat) : Int) * 8) 56))] : List Int)) ++ ([(IntKind.u8.wrap (Ab .i64 (((s.length : Nat) : Int) * 8) 48))] : List Int)) ++ ([(IntKind.u8.wrap (Ab .i64 (((s.length : Nat) : Int) * 8) 40))] : List Int)) ++ ([(IntKind.u8.wrap (Ab .i64 (((s.length : Nat) : Int) * 8) 32))] : List Int)) ++ ([(IntKind.u8.wrap (Ab .i64 (((s.length : Nat) : Int) * 8) 24))] : List Int)) ++ ([(IntKind.u8.wrap (Ab .i64 (((s.length : Nat) : Int) * 8) 16))] : List Int)) rfl Oo underlying174 Bm hox8 (qb q0) (Ch.lit (xs := ([(IntKind.u8.wrap (Ab .i64 (((s.length : Nat) : Int) * 8) 16))] : List Int)) Bm) ⟨by omega, by omega⟩ (n := (((((out_1 ++ ([(IntKind.u8.wrap (Ab .i64 (((s.length : Nat) : Int) * 8) 56))] : List Int)) ++ ([(IntKind.u8.wrap (Ab .i64 (((s.length : Nat) : Int) * 8) 48))] : List Int)) ++ ([(IntKind.u8.wrap (Ab .i64 (((s.length : Nat) : Int) * 8) 40))] : List Int)) ++ ([(IntKind.u8.wrap (Ab .i64 (((s.length : Nat) : Int) * 8) 32))] : List Int)) ++ ([(IntKind.u8.wrap (Ab .i64 (((s.length : Nat) : Int) * 8) 24))] : List Int)).length) (m := 1) (k := fun ax9 cx9 Bx9 hox9 => ?_)
  have hal9 : ((((((out_1 ++ ([(IntKind.u8.wrap (Ab .i64 (((s.length : Nat) : Int) * 8) 56))] : List Int)) ++ ([(IntKind.u8.wrap (Ab .i64 (((s.length : Nat) : Int) * 8) 48))] : List Int)) ++ ([(IntKind.u8.wrap (Ab .i64 (((s.length : Nat) : Int) * 8) 40))] : List Int)) ++ ([(IntKind.u8.wrap (Ab .i64 (((s.length : Nat) : Int) * 8) 32))] : List Int)) ++ ([(IntKind.u8.wrap (Ab .i64 (((s.length : Nat) : Int) * 8) 24))] : List Int)) ++ ([(IntKind.u8.wrap (Ab .i64 (((s.length : Nat) : Int) * 8) 16))] : List Int)).length = (((((out_1 ++ ([(IntKind.u8.wrap (Ab .i64 (((s.length : Nat) : Int) * 8) 56))] : List Int)) ++ ([(IntKind.u8.wrap (Ab .i64 (((s.length : Nat) : Int) * 8) 48))] : List Int)) ++ ([(IntKind.u8.wrap (Ab .i64 (((s.length : Nat) : Int) * 8) 40))] : List Int)) ++ ([(IntKind.u8.wrap (Ab .i64 (((s.length : Nat) : Int) * 8) 32))] : List Int)) ++ ([(IntKind.u8.wrap (Ab .i64 (((s.length : Nat) : Int) * 8) 24))] : List Int)).length + 1 := by first | rfl | exact List.length_append | simp
  refine Mo ?_
  refine Yh ?_
  refine A9 ?_
  refine cN ?_
  refine iL ?_
  refine Aj Ae tV (k := fun r9 hr9 => ?_)
  refine Ar (((((((out_1 ++ ([(IntKind.u8.wrap (Ab .i64 (((s.length : Nat) : Int) * 8) 56))] : List Int)) ++ ([(IntKind.u8.wrap (Ab .i64 (((s.length : Nat) : Int) * 8) 48))] : List Int)) ++ ([(IntKind.u8.wrap (Ab .i64 (((s.length : Nat) : Int) * 8) 40))] : List Int)) ++ ([(IntKind.u8.wrap (Ab .i64 (((s.length : Nat) : Int) * 8) 32))] : List Int)) ++ ([(IntKind.u8.wrap (Ab .i64 (((s.length : Nat) : Int) * 8) 24))] : List Int)) ++ ([(IntKind.u8.wrap (Ab .i64 (((s.length : Nat) : Int) * 8) 16))] : List Int)) ++ ([(IntKind.u8.wrap (Ab .i64 (((s.length : Nat) : Int) * 8) 8))] : List Int)) rfl Oo underlying174 Bm hox9 (qb q0) (Ch.lit (xs := ([(IntKind.u8.wrap (Ab .i64 (((s.length : Nat) : Int) * 8) 8))] : List Int)) Bm) ⟨by omega, by omega⟩ (n := ((((((out_1 ++ ([(IntKind.u8.wrap (Ab .i64 (((s.length : Nat) : Int) * 8) 56))] : List Int)) ++ ([(IntKind.u8.wrap (Ab .i64 (((s.length : Nat) : Int) * 8) 48))] : List Int)) ++ ([(IntKind.u8.wrap (Ab .i64 (((s.length : Nat) : Int) * 8) 40))] : List Int)) ++ ([(IntKind.u8.wrap (Ab .i64 (((s.length : Nat) : Int) * 8) 32))] : List Int)) ++ ([(IntKind.u8.wrap (Ab .i64 (((s.length : Nat) : Int) * 8) 24))] : List Int)) ++ ([(IntKind.u8.wrap (Ab .i64 (((s.length : Nat) : Int) * 8) 16))] : List Int)).length) (m := 1) (k := fun ax10 cx10 Bx10 hox10 => ?_)
  have hal10 : (((((((out_1 ++ ([(IntKind.u8.wrap (Ab .i64 (((s.length : Nat) : Int) * 8) 56))] : List Int)) ++ ([(IntKind.u8.wrap (Ab .i64 (((s.length : Nat) : Int) * 8) 48))] : List Int)) ++ ([(IntKind.u8.wrap (Ab .i64 (((s.length : Nat) : Int) * 8) 40))] : List Int)) ++ ([(IntKind.u8.wrap (Ab .i64 (((s.length : Nat) : Int) * 8) 32))] : List Int)) ++ ([(IntKind.u8.wrap (Ab .i64 (((s.length : Nat) : Int) * 8) 24))] : List Int)) ++ ([(IntKind.u8.wrap (Ab .i64 (((s.length : Nat) : Int) * 8) 16))] : List Int)) ++ ([(IntKind.u8.wrap (Ab .i64 (((s.length : Nat) : Int) * 8) 8))] : List Int)).length = ((((((out_1 ++ ([(IntKind.u8.wrap (Ab .i64 (((s.length : Nat) : Int) * 8) 56))] : List Int)) ++ ([(IntKind.u8.wrap (Ab .i64 (((s.length : Nat) : Int) * 8) 48))] : List Int)) ++ ([(IntKind.u8.wrap (Ab .i64 (((s.length : Nat) : Int) * 8) 40))] : List Int)) ++ ([(IntKind.u8.wrap (Ab .i64 (((s.length : Nat) : Int) * 8) 32))] : List Int)) ++ ([(IntKind.u8.wrap (Ab .i64 (((s.length : Nat) : Int) * 8) 24))] : List Int)) ++ ([(IntKind.u8.wrap (Ab .i64 (((s.length : Nat) : Int) * 8) 16))] : List Int)).length + 1 := by first | rfl | exact List.length_append | simp
  refine Mo ?_
  refine Yh ?_
  refine A9 ?_
  refine cN ?_
  refine iL ?_
  refine Aj Ae tV (k := fun r10 hr10 => ?_)
  refine Ar ((((((((out_1 ++ ([(IntKind.u8.wrap (Ab .i64 (((s.length : Nat) : Int) * 8) 56))] : List Int)) ++ ([(IntKind.u8.wrap (Ab .i64 (((s.length : Nat) : Int) * 8) 48))] : List Int)) ++ ([(IntKind.u8.wrap (Ab .i64 (((s.length : Nat) : Int) * 8) 40))] : List Int)) ++ ([(IntKind.u8.wrap (Ab .i64 (((s.length : Nat) : Int) * 8) 32))] : List Int)) ++ ([(IntKind.u8.wrap (Ab .i64 (((s.length : Nat) : Int) * 8) 24))] : List Int)) ++ ([(IntKind.u8.wrap (Ab .i64 (((s.length : Nat) : Int) * 8) 16))] : List Int)) ++ ([(IntKind.u8.wrap (Ab .i64 (((s.length : Nat) : Int) * 8) 8))] : List Int)) ++ ([(IntKind.u8.wrap (Ab .i64 (((s.length : Nat) : Int) * 8) 0))] : List Int)) rfl Oo underlying174 Bm hox10 (qb q0) (Ch.lit (xs := ([(IntKind.u8.wrap (Ab .i64 (((s.length : Nat) : Int) * 8) 0))] : List Int)) Bm) ⟨by omega, by omega⟩ (n := (((((((out_1 ++ ([(IntKind.u8.wrap (Ab .i64 (((s.length : Nat) : Int) * 8) 56))] : List Int)) ++ ([(IntKind.u8.wrap (Ab .i64 (((s.length : Nat) : Int) * 8) 48))] : List Int)) ++ ([(IntKind.u8.wrap (Ab .i64 (((s.length : Nat) : Int) * 8) 40))] : List Int)) ++ ([(IntKind.u8.wrap (Ab .i64 (((s.length : Nat) : Int) * 8) 32))] : List Int)) ++ ([(IntKind.u8.wrap (Ab .i64 (((s.length : Nat) : Int) * 8) 24))] : List Int)) ++ ([(IntKind.u8.wrap (Ab .i64 (((s.length : Nat) : Int) * 8) 16))] : List Int)) ++ ([(IntKind.u8.wrap (Ab .i64 (((s.length : Nat) : Int) * 8) 8))] : List Int)).length) (m := 1) (k := fun ax11 cx11 Bx11 hox11 => ?_)
  have hal11 : ((((((((out_1 ++ ([(IntKind.u8.wrap (Ab .i64 (((s.length : Nat) : Int) * 8) 56))] : List Int)) ++ ([(IntKind.u8.wrap (Ab .i64 (((s.length : Nat) : Int) * 8) 48))] : List Int)) ++ ([(IntKind.u8.wrap (Ab .i64 (((s.length : Nat) : Int) * 8) 40))] : List Int)) ++ ([(IntKind.u8.wrap (Ab .i64 (((s.length : Nat) : Int) * 8) 32))] : List Int)) ++ ([(IntKind.u8.wrap (Ab .i64 (((s.length : Nat) : Int) * 8) 24))] : List Int)) ++ ([(IntKind.u8.wrap (Ab .i64 (((s.length : Nat) : Int) * 8) 16))] : List Int)) ++ ([(IntKind.u8.wrap (Ab .i64 (((s.length : Nat) : Int) * 8) 8))] : List Int)) ++ ([(IntKind.u8.wrap (Ab .i64 (((s.length : Nat) : Int) * 8) 0))] : List Int)).length = (((((((out_1 ++ ([(IntKind.u8.wrap (Ab .i64 (((s.length : Nat) : Int) * 8) 56))] : List Int)) ++ ([(IntKind.u8.wrap (Ab .i64 (((s.length : Nat) : Int) * 8) 48))] : List Int)) ++ ([(IntKind.u8.wrap (Ab .i64 (((s.length : Nat) : Int) * 8) 40))] : List Int)) ++ ([(IntKind.u8.wrap (Ab .i64 (((s.length : Nat) : Int) * 8) 32))] : List Int)) ++ ([(IntKind.u8.wrap (Ab .i64 (((s.length : Nat) : Int) * 8) 24))] : List Int)) ++ ([(IntKind.u8.wrap (Ab .i64 (((s.length : Nat) : Int) * 8) 16))] : List Int)) ++ ([(IntKind.u8.wrap (Ab .i64 (((s.length : Nat) : Int) * 8) 8))] : List Int)).length + 1 := by first | rfl | exact List.length_append | simp
  refine Mo ?_
  refine Yh ?_
  refine S9 ?_
  refine Kg ?_
  refine Z3 ?_
  refine Ad (bA underlying9 underlying174 underlying5 (hox11.slj Bm)) (k := ?_)
  refine Z5 ?_
  refine Ac results96 z1 (fun w1 hw1 => ?_)
  exact ⟨(rq (hF.rn1 (hF3.neg hq1))), hw1.ext_out⟩

theorem gP (w : World) {s : Ai} (n_s : s.length ≤ 1000000) (hG : Gl w) : Gz Tryz.prog 47 [(vt s)] w (vt (Kz s)) := by
 have hF := Is.refl (Kz s)
 refine Pi func47 ntmps47 (h := ?_)
 refine Jn ?_
 refine Bh (args := []) (Aa call94) func94 ntmps94 ?_
 refine Z2 ?_
 refine Aj Ae z88 (k := fun r1 hr1 => ?_)
 refine Qn ?_
 refine AM4 ?_
 refine eQ ?_
 refine Av results94 (Bk.agg isAgg166 sizeOf166 rfl me rfl Bk.nil) ?_
 refine Ad (Cf (cs := [_, _, _, _, _, _, _, _]) zeroValue169 AE4) (k := ?_)
 refine Aj Ae (Jf (l := [_, _, _, _, _, _, _, _])) (k := fun r2 hr2 => ?_)
 refine Aj Ae (Bz (l := [_]) zeroValue162) (k := fun r3 hr3 => ?_)
 refine Eh (Bc (l' := [_]) sizeOf162) (k := ?_)
 refine Jk ?_
 refine Z2 ?_
 refine Bh (args := []) (Aa call94) func94 ntmps94 ?_
 refine Z2 ?_
 refine Aj Ae z88 (k := fun r4 hr4 => ?_)
 refine Qn ?_
 refine AM4 ?_
 refine eQ ?_
 refine Av results94 (Bk.agg isAgg166 sizeOf166 rfl me rfl Bk.nil) ?_
 refine Aj Ae z88 (k := fun r5 hr5 => ?_)
 refine Eh (Bc (l' := [_, _, _, _, _, _, _, _]) sizeOf166) (k := ?_)
 refine Jk ?_
 refine Dw mixed 6 [(true, 0), (true, 1), (true, 2), (true, 3), (true, 4), (true, 5)] z6 ?_
 refine Ay (Bb isAgg162) (k := ?_)
 refine Ay Mw (k := ?_)
 refine Ay (Al Vn) (k := ?_)
 refine Ay (Bq isAgg166 sizeOf166) (k := ?_)
 refine Ay (Bq isAgg166 sizeOf166) (k := ?_)
 refine Ay (Xh (u := (Value.agg [(Value.int .u32 1779033703), (Value.int .u32 3144134277), (Value.int .u32 1013904242), (Value.int .u32 2773480762), (Value.int .u32 1359893119), (Value.int .u32 2600822924), (Value.int .u32 528734635), (Value.int .u32 1541459225)].toArray)) (v := (Value.agg [(Value.int .u32 1779033703), (Value.int .u32 3144134277), (Value.int .u32 1013904242), (Value.int .u32 2773480762), (Value.int .u32 1359893119), (Value.int .u32 2600822924), (Value.int .u32 528734635), (Value.int .u32 1541459225)].toArray)) (b := true) (fun w => by kernel_rfl)) (k := ?_)
 refine lU ?_
 refine eV ?_
 refine Co (Aa call96) (fun w1 hw1 => O5 w1 (s := s) (n_s := Nm)) (k := ?_)
 refine Bh (args := [_]) (Aa call95) func95 ntmps95 ?_
 refine Z2 ?_
 refine Aj Ae Qh (k := fun r6 hr6 => ?_)
 refine Uc ?_
 refine Av results95 z1 ?_
 refine Kt ?_
 refine Fc Ae rfl call149 func149 ntmps149 (fun l7 rD7 rr7 hl7 => ?_)
 refine AK8 ?_
 refine Fm ?_
 refine jO (σ1 := Nat) (σ2 := Int) (σ3 := Int) (σ4 := Int) (σ5 := Int) (σ6 := Int) (σ7 := Int) (σ8 := Int) (σ9 := Int) (σ10 := Ai) (fun n_10 x_1 x_2 x_3 x_4 x_5 x_6 x_7 x_8 x_9 => ((l7, Cb rr7 .ready none) :: ((rD7, Obj.deferred (some [])) :: ((r6, oc [(vt x_9)] 9) :: ((r5, oc [(Value.int .u32 1779033703), (Value.int .u32 3144134277), (Value.int .u32 1013904242), (Value.int .u32 2773480762), (Value.int .u32 1359893119), (Value.int .u32 2600822924), (Value.int .u32 528734635), (Value.int .u32 1541459225)] 166) :: ((r4, oc [(Value.int .u32 1779033703), (Value.int .u32 3144134277), (Value.int .u32 1013904242), (Value.int .u32 2773480762), (Value.int .u32 1359893119), (Value.int .u32 2600822924), (Value.int .u32 528734635), (Value.int .u32 1541459225)] 166) :: ((r3, oc [(Value.pointer (some ⟨r2, 0, none⟩))] 162) :: ((r2, oc [(Value.int .u32 x_1), (Value.int .u32 x_2), (Value.int .u32 x_3), (Value.int .u32 x_4), (Value.int .u32 x_5), (Value.int .u32 x_6), (Value.int .u32 x_7), (Value.int .u32 x_8)] 169) :: ((r1, oc [(Value.int .u32 1779033703), (Value.int .u32 3144134277), (Value.int .u32 1013904242), (Value.int .u32 2773480762), (Value.int .u32 1359893119), (Value.int .u32 2600822924), (Value.int .u32 528734635), (Value.int .u32 1541459225)] 166) :: []))))))))) (fun n_10 x_1 x_2 x_3 x_4 x_5 x_6 x_7 x_8 x_9 => [(0, (Value.func (.yield l7) [].toArray [].toArray)), (1, (Value.pointer (some ⟨r6, 0, none⟩)))]) (fun n_10 x_1 x_2 x_3 x_4 x_5 x_6 x_7 x_8 x_9 => x_9.length < n_10 ∧ Is (Zb s ((kJ s).length + 1) 1779033703 3144134277 1013904242 2773480762 1359893119 2600822924 528734635 1541459225 (kJ s)) (Zb s n_10 x_1 x_2 x_3 x_4 x_5 x_6 x_7 x_8 x_9)) (fun n_10 x_1 x_2 x_3 x_4 x_5 x_6 x_7 x_8 x_9 => n_10) ((kJ s).length + 1) 1779033703 3144134277 1013904242 2773480762 1359893119 2600822924 528734635 1541459225 (kJ s) ?_ se (List.Perm.refl _) ?_
 ·exact ⟨Nat.lt_succ_self _, Is.refl _⟩
 ·rintro (_ | n_10) x_1 x_2 x_3 x_4 x_5 x_6 x_7 x_8 x_9 ⟨hm12, hF11⟩
  ·omega
  refine Ez ?_
  refine Z2 ?_
  refine Nn ?_
  refine fJ ?_
  refine AJ8 ?_
  refine Bd rfl (fun hq1 => ?_) (fun hq1 => ?_)
  rotate_left
  ·refine Cu ?_
   refine Jl ?_
   refine Gg (.inr rfl) results149 q0 ?_
   refine Ti ?_
   refine Jj ?_
   refine Z2 ?_
   refine Ad (Bb isAgg162) (k := ?_)
   refine Wh ?_
   refine Ad (Al Vn) (k := ?_)
   refine Ad (Bq isAgg166 sizeOf166) (k := ?_)
   refine Zx ?_
   refine Ad (Kx (m := 0) runUnderlying166 sizeOf164 isAgg164) (k := ?_)
   refine Z1 ?_
   refine Sv ?_
   refine Qs ?_
   refine Qs ?_
   refine iN ?_
   refine Aj Ae S1 (k := fun r10 hr10 => ?_)
   refine Ar ([(IntKind.u8.wrap (Ab .u32 x_1 24)), (IntKind.u8.wrap (Ab .u32 x_1 16)), (IntKind.u8.wrap (Ab .u32 x_1 8)), (IntKind.u8.wrap x_1)] : List Int) (List.nil_append _) Oo underlying174 Bm Bi.nil (List.Perm.refl _) (Ch.lit (xs := ([(IntKind.u8.wrap (Ab .u32 x_1 24)), (IntKind.u8.wrap (Ab .u32 x_1 16)), (IntKind.u8.wrap (Ab .u32 x_1 8)), (IntKind.u8.wrap x_1)] : List Int)) Bm) ⟨by first | omega | (simp; done) | (simp; omega), by first | omega | (simp; done) | (simp; omega)⟩ (n := 0) (m := 4) (k := fun ax1 cx1 Bx1 hox1 => ?_)
   refine Mo ?_
   refine lM ?_
   refine Ad (Kx (m := 1) runUnderlying166 sizeOf164 isAgg164) (k := ?_)
   refine Z1 ?_
   refine Sv ?_
   refine Qs ?_
   refine Qs ?_
   refine iN ?_
   refine Aj Ae S1 (k := fun r11 hr11 => ?_)
   refine Ar (([(IntKind.u8.wrap (Ab .u32 x_1 24)), (IntKind.u8.wrap (Ab .u32 x_1 16)), (IntKind.u8.wrap (Ab .u32 x_1 8)), (IntKind.u8.wrap x_1)] : List Int) ++ ([(IntKind.u8.wrap (Ab .u32 x_2 24)), (IntKind.u8.wrap (Ab .u32 x_2 16)), (IntKind.u8.wrap (Ab .u32 x_2 8)), (IntKind.u8.wrap x_2)] : List Int)) rfl Oo underlying174 Bm hox1 (qb q0) (Ch.lit (xs := ([(IntKind.u8.wrap (Ab .u32 x_2 24)), (IntKind.u8.wrap (Ab .u32 x_2 16)), (IntKind.u8.wrap (Ab .u32 x_2 8)), (IntKind.u8.wrap x_2)] : List Int)) Bm) ⟨by first | omega | (simp; done) | (simp; omega), by first | omega | (simp; done) | (simp; omega)⟩ (n := ([(IntKind.u8.wrap (Ab .u32 x_1 24)), (IntKind.u8.wrap (Ab .u32 x_1 16)), (IntKind.u8.wrap (Ab .u32 x_1 8)), (IntKind.u8.wrap x_1)] : List Int).length) (m := 4) (k := fun ax2 cx2 Bx2 hox2 => ?_)
   have hal2 : (([(IntKind.u8.wrap (Ab .u32 x_1 24)), (IntKind.u8.wrap (Ab .u32 x_1 16)), (IntKind.u8.wrap (Ab .u32 x_1 8)), (IntKind.u8.wrap x_1)] : List Int) ++ ([(IntKind.u8.wrap (Ab .u32 x_2 24)), (IntKind.u8.wrap (Ab .u32 x_2 16)), (IntKind.u8.wrap (Ab .u32 x_2 8)), (IntKind.u8.wrap x_2)] : List Int)).length = ([(IntKind.u8.wrap (Ab .u32 x_1 24)), (IntKind.u8.wrap (Ab .u32 x_1 16)), (IntKind.u8.wrap (Ab .u32 x_1 8)), (IntKind.u8.wrap x_1)] : List Int).length + 4 := by first | rfl | exact List.length_append | simp
   refine Mo ?_
   refine lM ?_
   refine Ad (Kx (m := 2) runUnderlying166 sizeOf164 isAgg164) (k := ?_)
   refine Z1 ?_
   refine Sv ?_
   refine Qs ?_
   refine Qs ?_
   refine iN ?_
   refine Aj Ae S1 (k := fun r12 hr12 => ?_)
   refine Ar ((([(IntKind.u8.wrap (Ab .u32 x_1 24)), (IntKind.u8.wrap (Ab .u32 x_1 16)), (IntKind.u8.wrap (Ab .u32 x_1 8)), (IntKind.u8.wrap x_1)] : List Int) ++ ([(IntKind.u8.wrap (Ab .u32 x_2 24)), (IntKind.u8.wrap (Ab .u32 x_2 16)), (IntKind.u8.wrap (Ab .u32 x_2 8)), (IntKind.u8.wrap x_2)] : List Int)) ++ ([(IntKind.u8.wrap (Ab .u32 x_3 24)), (IntKind.u8.wrap (Ab .u32 x_3 16)), (IntKind.u8.wrap (Ab .u32 x_3 8)), (IntKind.u8.wrap x_3)] : List Int)) rfl Oo underlying174 Bm hox2 (qb q0) (Ch.lit (xs := ([(IntKind.u8.wrap (Ab .u32 x_3 24)), (IntKind.u8.wrap (Ab .u32 x_3 16)), (IntKind.u8.wrap (Ab .u32 x_3 8)), (IntKind.u8.wrap x_3)] : List Int)) Bm) ⟨by first | omega | (simp; done) | (simp; omega), by first | omega | (simp; done) | (simp; omega)⟩ (n := (([(IntKind.u8.wrap (Ab .u32 x_1 24)), (IntKind.u8.wrap (Ab .u32 x_1 16)), (IntKind.u8.wrap (Ab .u32 x_1 8)), (IntKind.u8.wrap x_1)] : List Int) ++ ([(IntKind.u8.wrap (Ab .u32 x_2 24)), (IntKind.u8.wrap (Ab .u32 x_2 16)), (IntKind.u8.wrap (Ab .u32 x_2 8)), (IntKind.u8.wrap x_2)] : List Int)).length) (m := 4) (k := fun ax3 cx3 Bx3 hox3 => ?_)
   have hal3 : ((([(IntKind.u8.wrap (Ab .u32 x_1 24)), (IntKind.u8.wrap (Ab .u32 x_1 16)), (IntKind.u8.wrap (Ab .u32 x_1 8)), (IntKind.u8.wrap x_1)] : List Int) ++ ([(IntKind.u8.wrap (Ab .u32 x_2 24)), (IntKind.u8.wrap (Ab .u32 x_2 16)), (IntKind.u8.wrap (Ab .u32 x_2 8)), (IntKind.u8.wrap x_2)] : List Int)) ++ ([(IntKind.u8.wrap (Ab .u32 x_3 24)), (IntKind.u8.wrap (Ab .u32 x_3 16)), (IntKind.u8.wrap (Ab .u32 x_3 8)), (IntKind.u8.wrap x_3)] : List Int)).length = (([(IntKind.u8.wrap (Ab .u32 x_1 24)), (IntKind.u8.wrap (Ab .u32 x_1 16)), (IntKind.u8.wrap (Ab .u32 x_1 8)), (IntKind.u8.wrap x_1)] : List Int) ++ ([(IntKind.u8.wrap (Ab .u32 x_2 24)), (IntKind.u8.wrap (Ab .u32 x_2 16)), (IntKind.u8.wrap (Ab .u32 x_2 8)), (IntKind.u8.wrap x_2)] : List Int)).length + 4 := by first | rfl | exact List.length_append | simp
   refine Mo ?_
   refine lM ?_
   refine Ad (Kx (m := 3) runUnderlying166 sizeOf164 isAgg164) (k := ?_)
   refine Z1 ?_
   refine Sv ?_
   refine Qs ?_
   refine Qs ?_
   refine iN ?_
   refine Aj Ae S1 (k := fun r13 hr13 => ?_)
   refine Ar (((([(IntKind.u8.wrap (Ab .u32 x_1 24)), (IntKind.u8.wrap (Ab .u32 x_1 16)), (IntKind.u8.wrap (Ab .u32 x_1 8)), (IntKind.u8.wrap x_1)] : List Int) ++ ([(IntKind.u8.wrap (Ab .u32 x_2 24)), (IntKind.u8.wrap (Ab .u32 x_2 16)), (IntKind.u8.wrap (Ab .u32 x_2 8)), (IntKind.u8.wrap x_2)] : List Int)) ++ ([(IntKind.u8.wrap (Ab .u32 x_3 24)), (IntKind.u8.wrap (Ab .u32 x_3 16)), (IntKind.u8.wrap (Ab .u32 x_3 8)), (IntKind.u8.wrap x_3)] : List Int)) ++ ([(IntKind.u8.wrap (Ab .u32 x_4 24)), (IntKind.u8.wrap (Ab .u32 x_4 16)), (IntKind.u8.wrap (Ab .u32 x_4 8)), (IntKind.u8.wrap x_4)] : List Int)) rfl Oo underlying174 Bm hox3 (qb q0) (Ch.lit (xs := ([(IntKind.u8.wrap (Ab .u32 x_4 24)), (IntKind.u8.wrap (Ab .u32 x_4 16)), (IntKind.u8.wrap (Ab .u32 x_4 8)), (IntKind.u8.wrap x_4)] : List Int)) Bm) ⟨by first | omega | (simp; done) | (simp; omega), by first | omega | (simp; done) | (simp; omega)⟩ (n := ((([(IntKind.u8.wrap (Ab .u32 x_1 24)), (IntKind.u8.wrap (Ab .u32 x_1 16)), (IntKind.u8.wrap (Ab .u32 x_1 8)), (IntKind.u8.wrap x_1)] : List Int) ++ ([(IntKind.u8.wrap (Ab .u32 x_2 24)), (IntKind.u8.wrap (Ab .u32 x_2 16)), (IntKind.u8.wrap (Ab .u32 x_2 8)), (IntKind.u8.wrap x_2)] : List Int)) ++ ([(IntKind.u8.wrap (Ab .u32 x_3 24)), (IntKind.u8.wrap (Ab .u32 x_3 16)), (IntKind.u8.wrap (Ab .u32 x_3 8)), (IntKind.u8.wrap x_3)] : List Int)).length) (m := 4) (k := fun ax4 cx4 Bx4 hox4 => ?_)
   have hal4 : (((([(IntKind.u8.wrap (Ab .u32 x_1 24)), (IntKind.u8.wrap (Ab .u32 x_1 16)), (IntKind.u8.wrap (Ab .u32 x_1 8)), (IntKind.u8.wrap x_1)] : List Int) ++ ([(IntKind.u8.wrap (Ab .u32 x_2 24)), (IntKind.u8.wrap (Ab .u32 x_2 16)), (IntKind.u8.wrap (Ab .u32 x_2 8)), (IntKind.u8.wrap x_2)] : List Int)) ++ ([(IntKind.u8.wrap (Ab .u32 x_3 24)), (IntKind.u8.wrap (Ab .u32 x_3 16)), (IntKind.u8.wrap (Ab .u32 x_3 8)), (IntKind.u8.wrap x_3)] : List Int)) ++ ([(IntKind.u8.wrap (Ab .u32 x_4 24)), (IntKind.u8.wrap (Ab .u32 x_4 16)), (IntKind.u8.wrap (Ab .u32 x_4 8)), (IntKind.u8.wrap x_4)] : List Int)).length = ((([(IntKind.u8.wrap (Ab .u32 x_1 24)), (IntKind.u8.wrap (Ab .u32 x_1 16)), (IntKind.u8.wrap (Ab .u32 x_1 8)), (IntKind.u8.wrap x_1)] : List Int) ++ ([(IntKind.u8.wrap (Ab .u32 x_2 24)), (IntKind.u8.wrap (Ab .u32 x_2 16)), (IntKind.u8.wrap (Ab .u32 x_2 8)), (IntKind.u8.wrap x_2)] : List Int)) ++ ([(IntKind.u8.wrap (Ab .u32 x_3 24)), (IntKind.u8.wrap (Ab .u32 x_3 16)), (IntKind.u8.wrap (Ab .u32 x_3 8)), (IntKind.u8.wrap x_3)] : List Int)).length + 4 := by first | rfl | exact List.length_append | simp
   refine Mo ?_
   refine lM ?_
   refine Ad (Kx (m := 4) runUnderlying166 sizeOf164 isAgg164) (k := ?_)
   refine Z1 ?_
   refine Sv ?_
   refine Qs ?_
   refine Qs ?_
   refine iN ?_
   refine Aj Ae S1 (k := fun r14 hr14 => ?_)
   refine Ar ((((([(IntKind.u8.wrap (Ab .u32 x_1 24)), (IntKind.u8.wrap (Ab .u32 x_1 16)), (IntKind.u8.wrap (Ab .u32 x_1 8)), (IntKind.u8.wrap x_1)] : List Int) ++ ([(IntKind.u8.wrap (Ab .u32 x_2 24)), (IntKind.u8.wrap (Ab .u32 x_2 16)), (IntKind.u8.wrap (Ab .u32 x_2 8)), (IntKind.u8.wrap x_2)] : List Int)) ++ ([(IntKind.u8.wrap (Ab .u32 x_3 24)), (IntKind.u8.wrap (Ab .u32 x_3 16)), (IntKind.u8.wrap (Ab .u32 x_3 8)), (IntKind.u8.wrap x_3)] : List Int)) ++ ([(IntKind.u8.wrap (Ab .u32 x_4 24)), (IntKind.u8.wrap (Ab .u32 x_4 16)), (IntKind.u8.wrap (Ab .u32 x_4 8)), (IntKind.u8.wrap x_4)] : List Int)) ++ ([(IntKind.u8.wrap (Ab .u32 x_5 24)), (IntKind.u8.wrap (Ab .u32 x_5 16)), (IntKind.u8.wrap (Ab .u32 x_5 8)), (IntKind.u8.wrap x_5)] : List Int)) rfl Oo underlying174 Bm hox4 (qb q0) (Ch.lit (xs := ([(IntKind.u8.wrap (Ab .u32 x_5 24)), (IntKind.u8.wrap (Ab .u32 x_5 16)), (IntKind.u8.wrap (Ab .u32 x_5 8)), (IntKind.u8.wrap x_5)] : List Int)) Bm) ⟨by first | omega | (simp; done) | (simp; omega), by first | omega | (simp; done) | (simp; omega)⟩ (n := (((([(IntKind.u8.wrap (Ab .u32 x_1 24)), (IntKind.u8.wrap (Ab .u32 x_1 16)), (IntKind.u8.wrap (Ab .u32 x_1 8)), (IntKind.u8.wrap x_1)] : List Int) ++ ([(IntKind.u8.wrap (Ab .u32 x_2 24)), (IntKind.u8.wrap (Ab .u32 x_2 16)), (IntKind.u8.wrap (Ab .u32 x_2 8)), (IntKind.u8.wrap x_2)] : List Int)) ++ ([(IntKind.u8.wrap (Ab .u32 x_3 24)), (IntKind.u8.wrap (Ab .u32 x_3 16)), (IntKind.u8.wrap (Ab .u32 x_3 8)), (IntKind.u8.wrap x_3)] : List Int)) ++ ([(IntKind.u8.wrap (Ab .u32 x_4 24)), (IntKind.u8.wrap (Ab .u32 x_4 16)), (IntKind.u8.wrap (Ab .u32 x_4 8)), (IntKind.u8.wrap x_4)] : List Int)).length) (m := 4) (k := fun ax5 cx5 Bx5 hox5 => ?_)
   have hal5 : ((((([(IntKind.u8.wrap (Ab .u32 x_1 24)), (IntKind.u8.wrap (Ab .u32 x_1 16)), (IntKind.u8.wrap (Ab .u32 x_1 8)), (IntKind.u8.wrap x_1)] : List Int) ++ ([(IntKind.u8.wrap (Ab .u32 x_2 24)), (IntKind.u8.wrap (Ab .u32 x_2 16)), (IntKind.u8.wrap (Ab .u32 x_2 8)), (IntKind.u8.wrap x_2)] : List Int)) ++ ([(IntKind.u8.wrap (Ab .u32 x_3 24)), (IntKind.u8.wrap (Ab .u32 x_3 16)), (IntKind.u8.wrap (Ab .u32 x_3 8)), (IntKind.u8.wrap x_3)] : List Int)) ++ ([(IntKind.u8.wrap (Ab .u32 x_4 24)), (IntKind.u8.wrap (Ab .u32 x_4 16)), (IntKind.u8.wrap (Ab .u32 x_4 8)), (IntKind.u8.wrap x_4)] : List Int)) ++ ([(IntKind.u8.wrap (Ab .u32 x_5 24)), (IntKind.u8.wrap (Ab .u32 x_5 16)), (IntKind.u8.wrap (Ab .u32 x_5 8)), (IntKind.u8.wrap x_5)] : List Int)).length = (((([(IntKind.u8.wrap (Ab .u32 x_1 24)), (IntKind.u8.wrap (Ab .u32 x_1 16)), (IntKind.u8.wrap (Ab .u32 x_1 8)), (IntKind.u8.wrap x_1)] : List Int) ++ ([(IntKind.u8.wrap (Ab .u32 x_2 24)), (IntKind.u8.wrap (Ab .u32 x_2 16)), (IntKind.u8.wrap (Ab .u32 x_2 8)), (IntKind.u8.wrap x_2)] : List Int)) ++ ([(IntKind.u8.wrap (Ab .u32 x_3 24)), (IntKind.u8.wrap (Ab .u32 x_3 16)), (IntKind.u8.wrap (Ab .u32 x_3 8)), (IntKind.u8.wrap x_3)] : List Int)) ++ ([(IntKind.u8.wrap (Ab .u32 x_4 24)), (IntKind.u8.wrap (Ab .u32 x_4 16)), (IntKind.u8.wrap (Ab .u32 x_4 8)), (IntKind.u8.wrap x_4)] : List Int)).length + 4 := by first | rfl | exact List.length_append | simp
   refine Mo ?_
   refine lM ?_
   refine Ad (Kx (m := 5) runUnderlying166 sizeOf164 isAgg164) (k := ?_)
   refine Z1 ?_
   refine Sv ?_
   refine Qs ?_
   refine Qs ?_
   refine iN ?_
   refine Aj Ae S1 (k := fun r15 hr15 => ?_)
   refine Ar (((((([(IntKind.u8.wrap (Ab .u32 x_1 24)), (IntKind.u8.wrap (Ab .u32 x_1 16)), (IntKind.u8.wrap (Ab .u32 x_1 8)), (IntKind.u8.wrap x_1)] : List Int) ++ ([(IntKind.u8.wrap (Ab .u32 x_2 24)), (IntKind.u8.wrap (Ab .u32 x_2 16)), (IntKind.u8.wrap (Ab .u32 x_2 8)), (IntKind.u8.wrap x_2)] : List Int)) ++ ([(IntKind.u8.wrap (Ab .u32 x_3 24)), (IntKind.u8.wrap (Ab .u32 x_3 16)), (IntKind.u8.wrap (Ab .u32 x_3 8)), (IntKind.u8.wrap x_3)] : List Int)) ++ ([(IntKind.u8.wrap (Ab .u32 x_4 24)), (IntKind.u8.wrap (Ab .u32 x_4 16)), (IntKind.u8.wrap (Ab .u32 x_4 8)), (IntKind.u8.wrap x_4)] : List Int)) ++ ([(IntKind.u8.wrap (Ab .u32 x_5 24)), (IntKind.u8.wrap (Ab .u32 x_5 16)), (IntKind.u8.wrap (Ab .u32 x_5 8)), (IntKind.u8.wrap x_5)] : List Int)) ++ ([(IntKind.u8.wrap (Ab .u32 x_6 24)), (IntKind.u8.wrap (Ab .u32 x_6 16)), (IntKind.u8.wrap (Ab .u32 x_6 8)), (IntKind.u8.wrap x_6)] : List Int)) rfl Oo underlying174 Bm hox5 (qb q0) (Ch.lit (xs := ([(IntKind.u8.wrap (Ab .u32 x_6 24)), (IntKind.u8.wrap (Ab .u32 x_6 16)), (IntKind.u8.wrap (Ab .u32 x_6 8)), (IntKind.u8.wrap x_6)] : List Int)) Bm) ⟨by first | omega | (simp; done) | (simp; omega), by first | omega | (simp; done) | (simp; omega)⟩ (n := ((((([(IntKind.u8.wrap (Ab .u32 x_1 24)), (IntKind.u8.wrap (Ab .u32 x_1 16)), (IntKind.u8.wrap (Ab .u32 x_1 8)), (IntKind.u8.wrap x_1)] : List Int) ++ ([(IntKind.u8.wrap (Ab .u32 x_2 24)), (IntKind.u8.wrap (Ab .u32 x_2 16)), (IntKind.u8.wrap (Ab .u32 x_2 8)), (IntKind.u8.wrap x_2)] : List Int)) ++ ([(IntKind.u8.wrap (Ab .u32 x_3 24)), (IntKind.u8.wrap (Ab .u32 x_3 16)), (IntKind.u8.wrap (Ab .u32 x_3 8)), (IntKind.u8.wrap x_3)] : List Int)) ++ ([(IntKind.u8.wrap (Ab .u32 x_4 24)), (IntKind.u8.wrap (Ab .u32 x_4 16)), (IntKind.u8.wrap (Ab .u32 x_4 8)), (IntKind.u8.wrap x_4)] : List Int)) ++ ([(IntKind.u8.wrap (Ab .u32 x_5 24)), (IntKind.u8.wrap (Ab .u32 x_5 16)), (IntKind.u8.wrap (Ab .u32 x_5 8)), (IntKind.u8.wrap x_5)] : List Int)).length) (m := 4) (k := fun ax6 cx6 Bx6 hox6 => ?_)
   have hal6 : (((((([(IntKind.u8.wrap (Ab .u32 x_1 24)), (IntKind.u8.wrap (Ab .u32 x_1 16)), (IntKind.u8.wrap (Ab .u32 x_1 8)), (IntKind.u8.wrap x_1)] : List Int) ++ ([(IntKind.u8.wrap (Ab .u32 x_2 24)), (IntKind.u8.wrap (Ab .u32 x_2 16)), (IntKind.u8.wrap (Ab .u32 x_2 8)), (IntKind.u8.wrap x_2)] : List Int)) ++ ([(IntKind.u8.wrap (Ab .u32 x_3 24)), (IntKind.u8.wrap (Ab .u32 x_3 16)), (IntKind.u8.wrap (Ab .u32 x_3 8)), (IntKind.u8.wrap x_3)] : List Int)) ++ ([(IntKind.u8.wrap (Ab .u32 x_4 24)), (IntKind.u8.wrap (Ab .u32 x_4 16)), (IntKind.u8.wrap (Ab .u32 x_4 8)), (IntKind.u8.wrap x_4)] : List Int)) ++ ([(IntKind.u8.wrap (Ab .u32 x_5 24)), (IntKind.u8.wrap (Ab .u32 x_5 16)), (IntKind.u8.wrap (Ab .u32 x_5 8)), (IntKind.u8.wrap x_5)] : List Int)) ++ ([(IntKind.u8.wrap (Ab .u32 x_6 24)), (IntKind.u8.wrap (Ab .u32 x_6 16)), (IntKind.u8.wrap (Ab .u32 x_6 8)), (IntKind.u8.wrap x_6)] : List Int)).length = ((((([(IntKind.u8.wrap (Ab .u32 x_1 24)), (IntKind.u8.wrap (Ab .u32 x_1 16)), (IntKind.u8.wrap (Ab .u32 x_1 8)), (IntKind.u8.wrap x_1)] : List Int) ++ ([(IntKind.u8.wrap (Ab .u32 x_2 24)), (IntKind.u8.wrap (Ab .u32 x_2 16)), (IntKind.u8.wrap (Ab .u32 x_2 8)), (IntKind.u8.wrap x_2)] : List Int)) ++ ([(IntKind.u8.wrap (Ab .u32 x_3 24)), (IntKind.u8.wrap (Ab .u32 x_3 16)), (IntKind.u8.wrap (Ab .u32 x_3 8)), (IntKind.u8.wrap x_3)] : List Int)) ++ ([(IntKind.u8.wrap (Ab .u32 x_4 24)), (IntKind.u8.wrap (Ab .u32 x_4 16)), (IntKind.u8.wrap (Ab .u32 x_4 8)), (IntKind.u8.wrap x_4)] : List Int)) ++ ([(IntKind.u8.wrap (Ab .u32 x_5 24)), (IntKind.u8.wrap (Ab .u32 x_5 16)), (IntKind.u8.wrap (Ab .u32 x_5 8)), (IntKind.u8.wrap x_5)] : List Int)).length + 4 := by first | rfl | exact List.length_append | simp
   refine Mo ?_
   refine lM ?_
   refine Ad (Kx (m := 6) runUnderlying166 sizeOf164 isAgg164) (k := ?_)
   refine Z1 ?_
   refine Sv ?_
   refine Qs ?_
   refine Qs ?_
   refine iN ?_
   refine Aj Ae S1 (k := fun r16 hr16 => ?_)
   refine Ar ((((((([(IntKind.u8.wrap (Ab .u32 x_1 24)), (IntKind.u8.wrap (Ab .u32 x_1 16)), (IntKind.u8.wrap (Ab .u32 x_1 8)), (IntKind.u8.wrap x_1)] : List Int) ++ ([(IntKind.u8.wrap (Ab .u32 x_2 24)), (IntKind.u8.wrap (Ab .u32 x_2 16)), (IntKind.u8.wrap (Ab .u32 x_2 8)), (IntKind.u8.wrap x_2)] : List Int)) ++ ([(IntKind.u8.wrap (Ab .u32 x_3 24)), (IntKind.u8.wrap (Ab .u32 x_3 16)), (IntKind.u8.wrap (Ab .u32 x_3 8)), (IntKind.u8.wrap x_3)] : List Int)) ++ ([(IntKind.u8.wrap (Ab .u32 x_4 24)), (IntKind.u8.wrap (Ab .u32 x_4 16)), (IntKind.u8.wrap (Ab .u32 x_4 8)), (IntKind.u8.wrap x_4)] : List Int)) ++ ([(IntKind.u8.wrap (Ab .u32 x_5 24)), (IntKind.u8.wrap (Ab .u32 x_5 16)), (IntKind.u8.wrap (Ab .u32 x_5 8)), (IntKind.u8.wrap x_5)] : List Int)) ++ ([(IntKind.u8.wrap (Ab .u32 x_6 24)), (IntKind.u8.wrap (Ab .u32 x_6 16)), (IntKind.u8.wrap (Ab .u32 x_6 8)), (IntKind.u8.wrap x_6)] : List Int)) ++ ([(IntKind.u8.wrap (Ab .u32 x_7 24)), (IntKind.u8.wrap (Ab .u32 x_7 16)), (IntKind.u8.wrap (Ab .u32 x_7 8)), (IntKind.u8.wrap x_7)] : List Int)) rfl Oo underlying174 Bm hox6 (qb q0) (Ch.lit (xs := ([(IntKind.u8.wrap (Ab .u32 x_7 24)), (IntKind.u8.wrap (Ab .u32 x_7 16)), (IntKind.u8.wrap (Ab .u32 x_7 8)), (IntKind.u8.wrap x_7)] : List Int)) Bm) ⟨by first | omega | (simp; done) | (simp; omega), by first | omega | (simp; done) | (simp; omega)⟩ (n := (((((([(IntKind.u8.wrap (Ab .u32 x_1 24)), (IntKind.u8.wrap (Ab .u32 x_1 16)), (IntKind.u8.wrap (Ab .u32 x_1 8)), (IntKind.u8.wrap x_1)] : List Int) ++ ([(IntKind.u8.wrap (Ab .u32 x_2 24)), (IntKind.u8.wrap (Ab .u32 x_2 16)), (IntKind.u8.wrap (Ab .u32 x_2 8)), (IntKind.u8.wrap x_2)] : List Int)) ++ ([(IntKind.u8.wrap (Ab .u32 x_3 24)), (IntKind.u8.wrap (Ab .u32 x_3 16)), (IntKind.u8.wrap (Ab .u32 x_3 8)), (IntKind.u8.wrap x_3)] : List Int)) ++ ([(IntKind.u8.wrap (Ab .u32 x_4 24)), (IntKind.u8.wrap (Ab .u32 x_4 16)), (IntKind.u8.wrap (Ab .u32 x_4 8)), (IntKind.u8.wrap x_4)] : List Int)) ++ ([(IntKind.u8.wrap (Ab .u32 x_5 24)), (IntKind.u8.wrap (Ab .u32 x_5 16)), (IntKind.u8.wrap (Ab .u32 x_5 8)), (IntKind.u8.wrap x_5)] : List Int)) ++ ([(IntKind.u8.wrap (Ab .u32 x_6 24)), (IntKind.u8.wrap (Ab .u32 x_6 16)), (IntKind.u8.wrap (Ab .u32 x_6 8)), (IntKind.u8.wrap x_6)] : List Int)).length) (m := 4) (k := fun ax7 cx7 Bx7 hox7 => ?_)
   have hal7 : ((((((([(IntKind.u8.wrap (Ab .u32 x_1 24)), (IntKind.u8.wrap (Ab .u32 x_1 16)), (IntKind.u8.wrap (Ab .u32 x_1 8)), (IntKind.u8.wrap x_1)] : List Int) ++ ([(IntKind.u8.wrap (Ab .u32 x_2 24)), (IntKind.u8.wrap (Ab .u32 x_2 16)), (IntKind.u8.wrap (Ab .u32 x_2 8)), (IntKind.u8.wrap x_2)] : List Int)) ++ ([(IntKind.u8.wrap (Ab .u32 x_3 24)), (IntKind.u8.wrap (Ab .u32 x_3 16)), (IntKind.u8.wrap (Ab .u32 x_3 8)), (IntKind.u8.wrap x_3)] : List Int)) ++ ([(IntKind.u8.wrap (Ab .u32 x_4 24)), (IntKind.u8.wrap (Ab .u32 x_4 16)), (IntKind.u8.wrap (Ab .u32 x_4 8)), (IntKind.u8.wrap x_4)] : List Int)) ++ ([(IntKind.u8.wrap (Ab .u32 x_5 24)), (IntKind.u8.wrap (Ab .u32 x_5 16)), (IntKind.u8.wrap (Ab .u32 x_5 8)), (IntKind.u8.wrap x_5)] : List Int)) ++ ([(IntKind.u8.wrap (Ab .u32 x_6 24)), (IntKind.u8.wrap (Ab .u32 x_6 16)), (IntKind.u8.wrap (Ab .u32 x_6 8)), (IntKind.u8.wrap x_6)] : List Int)) ++ ([(IntKind.u8.wrap (Ab .u32 x_7 24)), (IntKind.u8.wrap (Ab .u32 x_7 16)), (IntKind.u8.wrap (Ab .u32 x_7 8)), (IntKind.u8.wrap x_7)] : List Int)).length = (((((([(IntKind.u8.wrap (Ab .u32 x_1 24)), (IntKind.u8.wrap (Ab .u32 x_1 16)), (IntKind.u8.wrap (Ab .u32 x_1 8)), (IntKind.u8.wrap x_1)] : List Int) ++ ([(IntKind.u8.wrap (Ab .u32 x_2 24)), (IntKind.u8.wrap (Ab .u32 x_2 16)), (IntKind.u8.wrap (Ab .u32 x_2 8)), (IntKind.u8.wrap x_2)] : List Int)) ++ ([(IntKind.u8.wrap (Ab .u32 x_3 24)), (IntKind.u8.wrap (Ab .u32 x_3 16)), (IntKind.u8.wrap (Ab .u32 x_3 8)), (IntKind.u8.wrap x_3)] : List Int)) ++ ([(IntKind.u8.wrap (Ab .u32 x_4 24)), (IntKind.u8.wrap (Ab .u32 x_4 16)), (IntKind.u8.wrap (Ab .u32 x_4 8)), (IntKind.u8.wrap x_4)] : List Int)) ++ ([(IntKind.u8.wrap (Ab .u32 x_5 24)), (IntKind.u8.wrap (Ab .u32 x_5 16)), (IntKind.u8.wrap (Ab .u32 x_5 8)), (IntKind.u8.wrap x_5)] : List Int)) ++ ([(IntKind.u8.wrap (Ab .u32 x_6 24)), (IntKind.u8.wrap (Ab .u32 x_6 16)), (IntKind.u8.wrap (Ab .u32 x_6 8)), (IntKind.u8.wrap x_6)] : List Int)).length + 4 := by first | rfl | exact List.length_append | simp
   refine Mo ?_
   refine lM ?_
   refine Ad (Kx (m := 7) runUnderlying166 sizeOf164 isAgg164) (k := ?_)
   refine Z1 ?_
   refine Sv ?_
   refine Qs ?_
   refine Qs ?_
   refine iN ?_
   refine Aj Ae S1 (k := fun r17 hr17 => ?_)
   refine Ar (((((((([(IntKind.u8.wrap (Ab .u32 x_1 24)), (IntKind.u8.wrap (Ab .u32 x_1 16)), (IntKind.u8.wrap (Ab .u32 x_1 8)), (IntKind.u8.wrap x_1)] : List Int) ++ ([(IntKind.u8.wrap (Ab .u32 x_2 24)), (IntKind.u8.wrap (Ab .u32 x_2 16)), (IntKind.u8.wrap (Ab .u32 x_2 8)), (IntKind.u8.wrap x_2)] : List Int)) ++ ([(IntKind.u8.wrap (Ab .u32 x_3 24)), (IntKind.u8.wrap (Ab .u32 x_3 16)), (IntKind.u8.wrap (Ab .u32 x_3 8)), (IntKind.u8.wrap x_3)] : List Int)) ++ ([(IntKind.u8.wrap (Ab .u32 x_4 24)), (IntKind.u8.wrap (Ab .u32 x_4 16)), (IntKind.u8.wrap (Ab .u32 x_4 8)), (IntKind.u8.wrap x_4)] : List Int)) ++ ([(IntKind.u8.wrap (Ab .u32 x_5 24)), (IntKind.u8.wrap (Ab .u32 x_5 16)), (IntKind.u8.wrap (Ab .u32 x_5 8)), (IntKind.u8.wrap x_5)] : List Int)) ++ ([(IntKind.u8.wrap (Ab .u32 x_6 24)), (IntKind.u8.wrap (Ab .u32 x_6 16)), (IntKind.u8.wrap (Ab .u32 x_6 8)), (IntKind.u8.wrap x_6)] : List Int)) ++ ([(IntKind.u8.wrap (Ab .u32 x_7 24)), (IntKind.u8.wrap (Ab .u32 x_7 16)), (IntKind.u8.wrap (Ab .u32 x_7 8)), (IntKind.u8.wrap x_7)] : List Int)) ++ ([(IntKind.u8.wrap (Ab .u32 x_8 24)), (IntKind.u8.wrap (Ab .u32 x_8 16)), (IntKind.u8.wrap (Ab .u32 x_8 8)), (IntKind.u8.wrap x_8)] : List Int)) rfl Oo underlying174 Bm hox7 (qb q0) (Ch.lit (xs := ([(IntKind.u8.wrap (Ab .u32 x_8 24)), (IntKind.u8.wrap (Ab .u32 x_8 16)), (IntKind.u8.wrap (Ab .u32 x_8 8)), (IntKind.u8.wrap x_8)] : List Int)) Bm) ⟨by first | omega | (simp; done) | (simp; omega), by first | omega | (simp; done) | (simp; omega)⟩ (n := ((((((([(IntKind.u8.wrap (Ab .u32 x_1 24)), (IntKind.u8.wrap (Ab .u32 x_1 16)), (IntKind.u8.wrap (Ab .u32 x_1 8)), (IntKind.u8.wrap x_1)] : List Int) ++ ([(IntKind.u8.wrap (Ab .u32 x_2 24)), (IntKind.u8.wrap (Ab .u32 x_2 16)), (IntKind.u8.wrap (Ab .u32 x_2 8)), (IntKind.u8.wrap x_2)] : List Int)) ++ ([(IntKind.u8.wrap (Ab .u32 x_3 24)), (IntKind.u8.wrap (Ab .u32 x_3 16)), (IntKind.u8.wrap (Ab .u32 x_3 8)), (IntKind.u8.wrap x_3)] : List Int)) ++ ([(IntKind.u8.wrap (Ab .u32 x_4 24)), (IntKind.u8.wrap (Ab .u32 x_4 16)), (IntKind.u8.wrap (Ab .u32 x_4 8)), (IntKind.u8.wrap x_4)] : List Int)) ++ ([(IntKind.u8.wrap (Ab .u32 x_5 24)), (IntKind.u8.wrap (Ab .u32 x_5 16)), (IntKind.u8.wrap (Ab .u32 x_5 8)), (IntKind.u8.wrap x_5)] : List Int)) ++ ([(IntKind.u8.wrap (Ab .u32 x_6 24)), (IntKind.u8.wrap (Ab .u32 x_6 16)), (IntKind.u8.wrap (Ab .u32 x_6 8)), (IntKind.u8.wrap x_6)] : List Int)) ++ ([(IntKind.u8.wrap (Ab .u32 x_7 24)), (IntKind.u8.wrap (Ab .u32 x_7 16)), (IntKind.u8.wrap (Ab .u32 x_7 8)), (IntKind.u8.wrap x_7)] : List Int)).length) (m := 4) (k := fun ax8 cx8 Bx8 hox8 => ?_)
   have hal8 : (((((((([(IntKind.u8.wrap (Ab .u32 x_1 24)), (IntKind.u8.wrap (Ab .u32 x_1 16)), (IntKind.u8.wrap (Ab .u32 x_1 8)), (IntKind.u8.wrap x_1)] : List Int) ++ ([(IntKind.u8.wrap (Ab .u32 x_2 24)), (IntKind.u8.wrap (Ab .u32 x_2 16)), (IntKind.u8.wrap (Ab .u32 x_2 8)), (IntKind.u8.wrap x_2)] : List Int)) ++ ([(IntKind.u8.wrap (Ab .u32 x_3 24)), (IntKind.u8.wrap (Ab .u32 x_3 16)), (IntKind.u8.wrap (Ab .u32 x_3 8)), (IntKind.u8.wrap x_3)] : List Int)) ++ ([(IntKind.u8.wrap (Ab .u32 x_4 24)), (IntKind.u8.wrap (Ab .u32 x_4 16)), (IntKind.u8.wrap (Ab .u32 x_4 8)), (IntKind.u8.wrap x_4)] : List Int)) ++ ([(IntKind.u8.wrap (Ab .u32 x_5 24)), (IntKind.u8.wrap (Ab .u32 x_5 16)), (IntKind.u8.wrap (Ab .u32 x_5 8)), (IntKind.u8.wrap x_5)] : List Int)) ++ ([(IntKind.u8.wrap (Ab .u32 x_6 24)), (IntKind.u8.wrap (Ab .u32 x_6 16)), (IntKind.u8.wrap (Ab .u32 x_6 8)), (IntKind.u8.wrap x_6)] : List Int)) ++ ([(IntKind.u8.wrap (Ab .u32 x_7 24)), (IntKind.u8.wrap (Ab .u32 x_7 16)), (IntKind.u8.wrap (Ab .u32 x_7 8)), (IntKind.u8.wrap x_7)] : List Int)) ++ ([(IntKind.u8.wrap (Ab .u32 x_8 24)), (IntKind.u8.wrap (Ab .u32 x_8 16)), (IntKind.u8.wrap (Ab .u32 x_8 8)), (IntKind.u8.wrap x_8)] : List Int)).length = ((((((([(IntKind.u8.wrap (Ab .u32 x_1 24)), (IntKind.u8.wrap (Ab .u32 x_1 16)), (IntKind.u8.wrap (Ab .u32 x_1 8)), (IntKind.u8.wrap x_1)] : List Int) ++ ([(IntKind.u8.wrap (Ab .u32 x_2 24)), (IntKind.u8.wrap (Ab .u32 x_2 16)), (IntKind.u8.wrap (Ab .u32 x_2 8)), (IntKind.u8.wrap x_2)] : List Int)) ++ ([(IntKind.u8.wrap (Ab .u32 x_3 24)), (IntKind.u8.wrap (Ab .u32 x_3 16)), (IntKind.u8.wrap (Ab .u32 x_3 8)), (IntKind.u8.wrap x_3)] : List Int)) ++ ([(IntKind.u8.wrap (Ab .u32 x_4 24)), (IntKind.u8.wrap (Ab .u32 x_4 16)), (IntKind.u8.wrap (Ab .u32 x_4 8)), (IntKind.u8.wrap x_4)] : List Int)) ++ ([(IntKind.u8.wrap (Ab .u32 x_5 24)), (IntKind.u8.wrap (Ab .u32 x_5 16)), (IntKind.u8.wrap (Ab .u32 x_5 8)), (IntKind.u8.wrap x_5)] : List Int)) ++ ([(IntKind.u8.wrap (Ab .u32 x_6 24)), (IntKind.u8.wrap (Ab .u32 x_6 16)), (IntKind.u8.wrap (Ab .u32 x_6 8)), (IntKind.u8.wrap x_6)] : List Int)) ++ ([(IntKind.u8.wrap (Ab .u32 x_7 24)), (IntKind.u8.wrap (Ab .u32 x_7 16)), (IntKind.u8.wrap (Ab .u32 x_7 8)), (IntKind.u8.wrap x_7)] : List Int)).length + 4 := by first | rfl | exact List.length_append | simp
   refine Mo ?_
   refine Zt ?_
   refine Z3 ?_
   refine Ad (bA underlying9 underlying174 underlying5 (hox8.slj Bm)) (k := ?_)
   refine Z5 ?_
   refine Db [rD7] (qc (qa (qa (qa (qa (qa (qa (qa (qa (qa q0)))))))))) results47 z1 (fun w1 hw1 => ?_)
   exact ⟨(rq (hF.rn9 (hF11.neg hq1))), hw1.ext_out⟩
  refine Qd ?_
  refine Vx ?_
  refine Nn ?_
  refine Ad (jY (s := x_9) 64 runUnderlying9 z8) (k := ?_)
  have hsb5 : (x_9.take 64).length = 64 := by first | omega | (simp only [List.length_take, List.length_drop, List.length_cons, List.length_nil] <;> omega)
  refine Jt (vs := [(vt (x_9.take 64))]) hl7 q0 Dh ?_
  refine cR ?_
  refine Dn ?_
  refine Ad (Bb isAgg162) (k := ?_)
  refine Cg ?_
  refine Bh (args := [_, _]) (Aa call97) func97 ntmps97 ?_
  refine Z3 ?_
  refine Wh ?_
  refine Ad (Al Vn) (k := ?_)
  refine Ad (Bq isAgg166 sizeOf166) (k := ?_)
  refine Aj Ae z88 (k := fun r8 hr8 => ?_)
  refine Eh (Bc (l' := [_, _, _, _, _, _, _, _]) sizeOf166) (k := ?_)
  refine Z0 ?_
  refine Vz ?_
  refine Hc ?_
  refine Co (Aa call151) (fun w1 hw1 => sV w1 (b := (x_9.take 64)) (hb := Nm)) (k := ?_)
  have hw64_79152 := nW (b := (x_9.take 64))
  refine Lt ?_
  refine jO (σ1 := Nat) (σ2 := Nat) (σ3 := Int) (σ4 := Int) (σ5 := Int) (σ6 := Int) (σ7 := Int) (σ8 := Int) (σ9 := Int) (σ10 := Int) (fun n_22 x_13 x_14 x_15 x_16 x_17 x_18 x_19 x_20 x_21 => ((r8, oc [(Value.int .u32 x_14), (Value.int .u32 x_15), (Value.int .u32 x_16), (Value.int .u32 x_17), (Value.int .u32 x_18), (Value.int .u32 x_19), (Value.int .u32 x_20), (Value.int .u32 x_21)] 166) :: ((l7, Cb rr7 .busy none) :: ((rD7, Obj.deferred (some [])) :: ((r6, oc [(vt x_9)] 9) :: ((r5, oc [(Value.int .u32 1779033703), (Value.int .u32 3144134277), (Value.int .u32 1013904242), (Value.int .u32 2773480762), (Value.int .u32 1359893119), (Value.int .u32 2600822924), (Value.int .u32 528734635), (Value.int .u32 1541459225)] 166) :: ((r4, oc [(Value.int .u32 1779033703), (Value.int .u32 3144134277), (Value.int .u32 1013904242), (Value.int .u32 2773480762), (Value.int .u32 1359893119), (Value.int .u32 2600822924), (Value.int .u32 528734635), (Value.int .u32 1541459225)] 166) :: ((r3, oc [(Value.pointer (some ⟨r2, 0, none⟩))] 162) :: ((r2, oc [(Value.int .u32 x_1), (Value.int .u32 x_2), (Value.int .u32 x_3), (Value.int .u32 x_4), (Value.int .u32 x_5), (Value.int .u32 x_6), (Value.int .u32 x_7), (Value.int .u32 x_8)] 169) :: ((r1, oc [(Value.int .u32 1779033703), (Value.int .u32 3144134277), (Value.int .u32 1013904242), (Value.int .u32 2773480762), (Value.int .u32 1359893119), (Value.int .u32 2600822924), (Value.int .u32 528734635), (Value.int .u32 1541459225)] 166) :: [])))))))))) (fun n_22 x_13 x_14 x_15 x_16 x_17 x_18 x_19 x_20 x_21 => [(0, (Value.pointer (some ⟨r2, 0, none⟩))), (4, (Value.pointer (some ⟨r8, 0, none⟩))), (5, (Value.func (.func 150) [(Value.pointer (some ⟨r8, 0, none⟩))].toArray [].toArray)), (14, (Value.agg (aI .u32 (Pq (x_9.take 64))).toArray)), (15, (vi ((x_13 : Nat) : Int)))]) (fun n_22 x_13 x_14 x_15 x_16 x_17 x_18 x_19 x_20 x_21 => 64 - x_13 < n_22 ∧ Is (Za s x_1 x_2 x_3 x_4 x_5 x_6 x_7 x_8 x_9 (64 + 1) 0 x_1 x_2 x_3 x_4 x_5 x_6 x_7 x_8) (Za s x_1 x_2 x_3 x_4 x_5 x_6 x_7 x_8 x_9 n_22 x_13 x_14 x_15 x_16 x_17 x_18 x_19 x_20 x_21) ∧ x_13 ≤ 64) (fun n_22 x_13 x_14 x_15 x_16 x_17 x_18 x_19 x_20 x_21 => n_22) (64 + 1) 0 x_1 x_2 x_3 x_4 x_5 x_6 x_7 x_8 ?_ se (List.Perm.refl _) ?_
  ·exact ⟨Nat.lt_succ_self _, Is.refl _, Qc⟩
  ·rintro (_ | n_22) x_13 x_14 x_15 x_16 x_17 x_18 x_19 x_20 x_21 ⟨hm24, hF23, hi25⟩
   ·omega
   refine Tx ?_
   refine Bd rfl (fun hq2 => ?_) (fun hq2 => ?_)
   ·refine Br ?_
    refine Gv ?_
    refine Vx ?_
    refine Ad (M7 (m := x_13) runUnderlying245 sizeOf164 isAgg164 (hm := Da) (hl := Da)) (k := ?_)
    refine Hr ?_
    refine Z1 ?_
    refine cN ?_
    refine Ad (Nw x_13 x_13 runUnderlying247 sizeOf163 (hm := Da)) (k := ?_)
    obtain ⟨Thgl3, fhgl3, hgl3⟩ := hG.sha
    refine Ad (xH (xs := Rg) (m := x_13) isAgg163 (by (have := nS; omega)) hgl3) (k := ?_)
    refine Bh (args := [_, _, _]) (Aa call150) func150 ntmps150 ?_
    refine Z2 ?_
    refine Ad (kE (cs := [_, _]) zeroValue337 AE5) (k := ?_)
    refine Aj Ae (Bz (l := [_, _]) zeroValue337) (k := fun r9 hr9 => ?_)
    refine Eh (Bc (l' := [_, _]) sizeOf337) (k := ?_)
    refine Jk ?_
    refine Dw mixed 30 [(true, 0), (true, 1), (true, 2), (true, 3), (true, 4), (true, 5), (true, 6), (true, 7), (true, 8), (true, 9), (true, 10), (true, 11), (true, 12), (true, 13), (true, 14), (true, 15), (true, 16), (true, 17), (true, 18), (true, 19), (true, 20), (true, 21), (true, 22), (true, 23), (true, 24), (true, 25), (true, 26), (true, 27), (true, 28), (true, 29)] z6 ?_
    refine Z4 ?_
    refine Ay (Ek (m := 0) runUnderlying166 sizeOf164) (k := ?_)
    refine vR ?_
    refine Ay (Ek (m := 1) runUnderlying166 sizeOf164) (k := ?_)
    refine vR ?_
    refine Ay (Ek (m := 2) runUnderlying166 sizeOf164) (k := ?_)
    refine vR ?_
    refine vW ?_
    refine vR ?_
    refine Ay (Ek (m := 5) runUnderlying166 sizeOf164) (k := ?_)
    refine vR ?_
    refine Ay (Ek (m := 6) runUnderlying166 sizeOf164) (k := ?_)
    refine Ay (Bb isAgg164) (k := ?_)
    refine Ud ?_
    refine Ud ?_
    refine Ud ?_
    refine Ud ?_
    refine Ud ?_
    refine Z27 ?_
    refine Jk ?_
    refine Dw mixed 23 [(true, 0), (true, 1), (true, 2), (true, 3), (true, 4), (true, 5), (true, 6), (true, 9), (true, 10), (true, 11), (true, 12), (true, 13), (true, 14), (true, 15), (true, 16), (true, 18), (true, 20), (false, 7), (true, 8), (true, 17), (true, 19), (true, 21), (true, 22)] z6 ?_
    refine Z4 ?_
    refine Ay (Ek (m := 7) runUnderlying166 sizeOf164) (k := ?_)
    refine Ay (Bb isAgg164) (k := ?_)
    refine Ay (Ek (m := 0) runUnderlying337 sizeOf335) (k := ?_)
    refine Ay (Bb isAgg335) (k := ?_)
    refine Mp ?_
    refine Fi ?_
    refine Ay Kw (k := ?_)
    refine Fi ?_
    refine Ay AD6 (k := ?_)
    refine Fi ?_
    refine Ay Kw (k := ?_)
    refine Ay nH (k := ?_)
    refine Mp ?_
    refine Tm (Aa call202) (fun w1 hw1 => sU w1 (w_ := x_18)) (k := ?_)
    refine Ay Nt (k := ?_)
    refine Ay Nt (k := ?_)
    refine Ay Nt (k := ?_)
    refine Ay Nt (k := ?_)
    refine Z27 ?_
    refine Qn ?_
    refine Ad (Ek (m := 1) runUnderlying337 sizeOf335) (k := ?_)
    refine Ad (Bb isAgg335) (k := ?_)
    refine Cg ?_
    refine Co (Aa call203) (fun w1 hw1 => sT w1 (w_ := x_14)) (k := ?_)
    refine Qi ?_
    refine Ad Kw (k := ?_)
    refine Qi ?_
    refine Ad Kw (k := ?_)
    refine aB ?_
    refine Qi ?_
    refine Ad Kw (k := ?_)
    refine aB ?_
    refine Ad Nt (k := ?_)
    refine Jj ?_
    refine Ff _ _ (vp (qa q0) (nC nE)) mixed 7 [(true, 0), (true, 1), (true, 2), (true, 3), (true, 4), (true, 5), (false, 6)] z6 ?_
    refine Z4 ?_
    refine Ay (nN 1 1 7 runUnderlying166 sizeOf164 (by decide) rfl rfl rfl) (k := ?_)
    refine Z4 ?_
    refine Ay (nO 7 runUnderlying166 sizeOf164 (by decide) (by decide) rfl) (k := ?_)
    refine xJ (l' := [_, _, _, _, _, _, _, _]) (us := [_, _, _, _, _, _, _]) runUnderlying249 sizeOf164 q0 me (k := ?_)
    refine Pf ?_
    refine Fq (nC nE) ?_
    refine Jk ?_
    refine Dw mixed 8 [(true, 0), (true, 1), (true, 2), (true, 3), (true, 4), (true, 5), (true, 6), (true, 7)] z6 ?_
    refine Z4 ?_
    refine vW ?_
    refine fF ?_
    refine vW ?_
    refine AJ3 ?_
    refine Z0 ?_
    refine cN ?_
    refine Ad Nt (k := ?_)
    refine Wh ?_
    refine Ad (Ek (m := 0) runUnderlying166 sizeOf164) (k := ?_)
    refine Eh (Bc (l' := [_, _, _, _, _, _, _, _]) sizeOf164) (k := ?_)
    refine Ef ?_
    refine Cx results150 Bk.nil ?_
    refine fD ?_
    refine Dj _ (((((((((qa (qa (qa (qa (qa (qa (qa (qa (qa q0))))))))).trans (qa (qa (qa (qa (qa (qa (qa (qa (qa q0)))))))))).trans (qa (qa (qa (qa (qa (qa (qa (qa (qa q0)))))))))).trans (qa (qa (qa (qa (qa (qa (qa (qa (qa q0)))))))))).trans (qa (qa (qa (qa (qa (qa (qa (qa (qa q0)))))))))).trans (qa (qa (qa (qa (qa (qa (qa (qa (qa q0)))))))))).trans (qa (qa (qa (qa (qa (qa (qa (qa (qa q0)))))))))).trans (qa (qa (qa (qa (qa (qa (qa (qa (qa q0)))))))))).trans (qa (qa (qa (qa (qa (qa (qa (qa q0))))))))) ?_
    refine Cc _ (List.Sublist.cons_cons _ (List.Sublist.cons_cons _ (List.Sublist.cons_cons _ R8))) ?_
    exact jP n_22 (x_13 + 1) (IntKind.u32.wrap ((IntKind.u32.wrap ((IntKind.u32.wrap ((IntKind.u32.wrap ((IntKind.u32.wrap (x_21 + (Wp x_18))) + (Fr .u32 (Ca .u32 x_18 x_19) (Ca .u32 (Fr .u32 (IntKind.max .u32) x_18) x_20)))) + (Rg.getD x_13 default))) + ((Pq (x_9.take 64)).getD x_13 default))) + (IntKind.u32.wrap ((gL x_14) + (Fr .u32 (Fr .u32 (Ca .u32 x_14 x_15) (Ca .u32 x_14 x_16)) (Ca .u32 x_15 x_16)))))) x_14 x_15 x_16 (IntKind.u32.wrap (x_17 + (IntKind.u32.wrap ((IntKind.u32.wrap ((IntKind.u32.wrap ((IntKind.u32.wrap (x_21 + (Wp x_18))) + (Fr .u32 (Ca .u32 x_18 x_19) (Ca .u32 (Fr .u32 (IntKind.max .u32) x_18) x_20)))) + (Rg.getD x_13 default))) + ((Pq (x_9.take 64)).getD x_13 default))))) x_18 x_19 x_20 ⟨by omega, (hF23.pos hq2), z8⟩ (Nat.lt_succ_self _) se (List.Perm.refl _)
   refine Cu ?_
   refine Kg ?_
   refine Ff _ _ (vp (qa (qa (qa (qa (qa (qa (qa q0))))))) (nC nE)) mixed 5 [(true, 0), (true, 1), (true, 2), (true, 3), (false, 4)] z6 ?_
   refine Z4 ?_
   refine Ay (Al Vn) (k := ?_)
   refine Ay (Xl runUnderlying166 sizeOf164 (by decide)) (k := ?_)
   refine fW (args := [_, _]) (Aa call152) func152 ntmps152 ?_
   refine Z3 ?_
   refine Ad (Dg runUnderlying249) (k := ?_)
   refine eU ?_
   refine Zv ?_
   refine Ad (Dy runUnderlying249 sizeOf164 0) (k := ?_)
   refine iR ?_
   refine Z1 ?_
   refine iD ?_
   refine Ay (Ek (m := 0) runUnderlying166 sizeOf164) (k := ?_)
   refine fF ?_
   refine Ay (Ek (m := 0) runUnderlying166 sizeOf164) (k := ?_)
   refine jC ?_
   refine Yi ?_
   refine Ad (Dy runUnderlying249 sizeOf164 1) (k := ?_)
   refine iR ?_
   refine Z1 ?_
   refine iD ?_
   refine Ay (Ek (m := 1) runUnderlying166 sizeOf164) (k := ?_)
   refine fF ?_
   refine Ay (Ek (m := 1) runUnderlying166 sizeOf164) (k := ?_)
   refine jC ?_
   refine Yi ?_
   refine Ad (Dy runUnderlying249 sizeOf164 2) (k := ?_)
   refine iR ?_
   refine Z1 ?_
   refine iD ?_
   refine Ay (Ek (m := 2) runUnderlying166 sizeOf164) (k := ?_)
   refine fF ?_
   refine Ay (Ek (m := 2) runUnderlying166 sizeOf164) (k := ?_)
   refine jC ?_
   refine Yi ?_
   refine Ad (Dy runUnderlying249 sizeOf164 3) (k := ?_)
   refine iR ?_
   refine Z1 ?_
   refine iD ?_
   refine Ay (Ek (m := 3) runUnderlying166 sizeOf164) (k := ?_)
   refine fF ?_
   refine Ay (Ek (m := 3) runUnderlying166 sizeOf164) (k := ?_)
   refine jC ?_
   refine Yi ?_
   refine Ad (Dy runUnderlying249 sizeOf164 4) (k := ?_)
   refine iR ?_
   refine Z1 ?_
   refine iD ?_
   refine vW ?_
   refine fF ?_
   refine vW ?_
   refine jC ?_
   refine Yi ?_
   refine Ad (Dy runUnderlying249 sizeOf164 5) (k := ?_)
   refine iR ?_
   refine Z1 ?_
   refine iD ?_
   refine Ay (Ek (m := 5) runUnderlying166 sizeOf164) (k := ?_)
   refine fF ?_
   refine Ay (Ek (m := 5) runUnderlying166 sizeOf164) (k := ?_)
   refine jC ?_
   refine Yi ?_
   refine Ad (Dy runUnderlying249 sizeOf164 6) (k := ?_)
   refine iR ?_
   refine Z1 ?_
   refine iD ?_
   refine Ay (Ek (m := 6) runUnderlying166 sizeOf164) (k := ?_)
   refine fF ?_
   refine Ay (Ek (m := 6) runUnderlying166 sizeOf164) (k := ?_)
   refine jC ?_
   refine Yi ?_
   refine Ad (Dy runUnderlying249 sizeOf164 7) (k := ?_)
   refine iR ?_
   refine Z1 ?_
   refine iD ?_
   refine Ay (Ek (m := 7) runUnderlying166 sizeOf164) (k := ?_)
   refine fF ?_
   refine Ay (Ek (m := 7) runUnderlying166 sizeOf164) (k := ?_)
   refine jC ?_
   refine Ya ?_
   refine Z53 ?_
   refine wZ _ _ results152 Bk.nil (vp (List.Perm.refl _) (nC nE)) Xw ?_
   refine Pf ?_
   refine Fq (nC nE) ?_
   refine Ef ?_
   refine Cx results97 Bk.nil ?_
   refine vG ?_
   refine Ex (qa (qa q0)) ?_
   refine Oc ?_
   refine Tw ?_
   refine Z29 ?_
   refine Nn ?_
   refine Ad (xA (s := x_9) 64 runUnderlying9 z8) (k := ?_)
   have hsb6 : (x_9.drop 64).length = x_9.length - 64 := by first | omega | (simp only [List.length_take, List.length_drop, List.length_cons, List.length_nil] <;> omega)
   refine Eh (Bc (l' := [_]) sizeOf9) (k := ?_)
   refine Ef ?_
   refine Dj _ ((((((((qa (qa (qa (qa (qa (qa (qa (qa q0)))))))).trans (qa (qa q0))).trans (qa (qa (qa (qa (qa (qa (qa (qa q0))))))))).trans (qa (qa (qa (qa (qa (qa (qa (qa q0))))))))).trans (qa (qa (qa (qa (qa (qa (qa (qa q0))))))))).trans (qa (qa (qa (qa (qa (qa (qa (qa q0))))))))).trans (qa (qa (qa (qa (qa (qa (qa (qa q0))))))))).trans (qa (qa (qa (qa (qa (qa (qa q0)))))))) ?_
   refine Cc _ (List.Sublist.cons_cons _ (List.Sublist.cons_cons _ R8)) ?_
   exact jP n_10 (IntKind.u32.wrap (x_1 + x_14)) (IntKind.u32.wrap (x_2 + x_15)) (IntKind.u32.wrap (x_3 + x_16)) (IntKind.u32.wrap (x_4 + x_17)) (IntKind.u32.wrap (x_5 + x_18)) (IntKind.u32.wrap (x_6 + x_19)) (IntKind.u32.wrap (x_7 + x_20)) (IntKind.u32.wrap (x_8 + x_21)) (x_9.drop 64) ⟨by omega, ((hF11.pos hq1).rn9 (hF23.neg hq2))⟩ (Nat.lt_succ_self _) se (List.Perm.refl _)

end Go.Proofs.YtdnjanhdnibkfaaGreatDoor.Jd

namespace Go.Proofs.YtdnjanhdnibkfaaGreatDoor.Jd
open Go.Proofs.Tryz
open Go.Proofs
open Go.RowKit (Below)
set_option maxRecDepth 100000
set_option maxHeartbeats 8000000
set_option linter.unusedVariables false
set_option linter.unusedSimpArgs false
theorem kU : Ba Tryz.prog 229 0 0 := fun r k w => by simp [Instr.fieldAt, Instr.sureAddr, fieldPlace, Ao]
theorem AE6 : Ej Tryz.prog 229 [(0, 1)] := ⟨_, fun w => runUnderlying229 w, fun w => by simp⟩
theorem sW : Ty Tryz.prog 9 1 16 (vt ([] : Ai)) := ⟨⟨Tryz.t9, by kernel_rfl, rfl, rfl, rfl⟩, rfl⟩
theorem Ww (w : World) {key : Ai} : Gz Tryz.prog 130 [(vt key)] w (Value.bool (Rh key)) := by
 have hF := Is.refl (Rh key)
 refine enter func130 ntmps130 (h := ?_)
 refine J5 ?_
 refine Ad My (k := ?_)
 refine Cg ?_
 refine Aw 6 rfl (fun hq1 => ?_) (fun hq1 => ?_)
 rotate_left
 ·refine Ag 3 rfl ?_
  refine Lr ?_
  refine Ac results130 z1 (fun w1 hw1 => ?_)
  exact ⟨(rq (hF.neg hq1)), hw1.ext_out⟩
 refine Ep ?_
 refine An (fX runUnderlying9) (k := ?_)
 refine An Oe (k := ?_)
 refine Ry ?_
 refine Ac results130 z1 (fun w1 hw1 => ?_)
 exact ⟨(rq (hF.pos hq1)), hw1.ext_out⟩

theorem O6 (w : World) {l_a : Option Addr} {l_c : Nat} {ea0 : Addr} {ea1 : Addr} {ea2 : Addr} {ea3 : Addr} {ea4 : Addr} {ea5 : Addr} {ea6 : Addr} {ea7 : Addr} {ea8 : Addr} {ea9 : Addr} {ea10 : Addr} {ea11 : Addr} {ea12 : Addr} {ea13 : Addr} {ea14 : Addr} {ea15 : Addr} {key : Ai} {l : List Ai} (h_l : Sl w eS 1 l_a l) (n_l : l.length ≤ 1000) (k_l : l.length ≤ l_c) (hG : Gl w) (hE : Er w ea0 ea1 ea2 ea3 ea4 ea5 ea6 ea7 ea8 ea9 ea10 ea11 ea12 ea13 ea14 ea15) (hj : (Lib.join l []).length ≤ 100000) : Gz Tryz.prog 80 [(vt key), (vs l_a l.length l_c)] w (vt (yB key l)) := by
 have hF := Is.refl (yB key l)
 refine enter func80 ntmps80 (h := ?_)
 refine Jn ?_
 refine Aj Ae (Bz (l := aI .u8 (List.replicate 64 (0 : Int))) zeroValue226 z6) (k := fun r1 hr1 => ?_)
 have hrlr1 := List.length_replicate (n := 64) (a := (0 : Int))
 refine Qn ?_
 refine Ad (Xl runUnderlying226 sizeOf5 (by decide)) (k := ?_)
 refine Cg ?_
 refine xK (n := 64) runUnderlying174 sizeOf5 q0 Da (k := ?_)
 have hcp1 : (Je (key.take 64) ++ (List.replicate 64 (0 : Int)).drop key.length).length = 64 := by simp only [List.length_append, List.length_drop, List.length_take, Ce]; omega
 refine Qn ?_
 refine Ad (Cf (cs := [_]) zeroValue229 AE6) (k := ?_)
 refine Aj Ae (Bz (l := [_]) zeroValue229) (k := fun r2 hr2 => ?_)
 refine Eh (Bc (l' := [_]) sizeOf229) (k := ?_)
 refine Qn ?_
 refine Ad (Bq isAgg229 sizeOf229) (k := ?_)
 refine Wf ?_
 refine Mu ?_
 refine Ad (Bq isAgg229 sizeOf229) (k := ?_)
 refine Cg ?_
 refine Ut (args := [_, _, _]) (Aa call131) func131 ntmps131 ?_
 refine Z2 ?_
 refine Aj Ae Qh (k := fun r3 hr3 => ?_)
 refine Oy ?_
 refine Aj Ae (Bz (l := [_]) zeroValue174) (k := fun r4 hr4 => ?_)
 refine Jk ?_
 refine Z2 ?_
 refine Ad (Al kU) (k := ?_)
 refine Ad (Bb isAgg227) (k := ?_)
 refine Cg ?_
 refine Bh (args := [_, _]) (Aa call191) func191 ntmps191 ?_
 refine Z2 ?_
 refine Aj Ae Qh (k := fun r5 hr5 => ?_)
 refine Aj Ae Qh (k := fun r6 hr6 => ?_)
 refine Uc ?_
 refine Av results191 z1 ?_
 refine Kt ?_
 refine Fc Ae rfl call241 func241 ntmps241 (fun l7 rD7 rr7 hl7 => ?_)
 refine Ye ?_
 refine Ad (Bb isAgg227) (k := ?_)
 refine Lt ?_
 refine Na (σ1 := Nat) (σ2 := Nat) (σ3 := List Int) (σ4 := Option Addr) (σ5 := Nat) (σ6 := Am) (fun n_3 x_1 x_2 x_2a x_2c x_2B => (x_2B ++ ((l7, Cb rr7 .ready none) :: ((rD7, Obj.deferred (some [])) :: ((r6, oc [(Value.int .u8 54)] 5) :: ((r5, oc [(Value.pointer (some ⟨r1, 0, none⟩))] 227) :: ((r4, oc [(vs x_2a x_2.length x_2c)] 174) :: ((r3, oc [(Value.pointer (some ⟨r1, 0, none⟩))] 229) :: ((r2, oc [(Value.pointer (some ⟨r1, 0, none⟩))] 229) :: ((r1, Obj.cells (aI .u8 (Je (key.take 64) ++ (List.replicate 64 (0 : Int)).drop key.length)).toArray 226) :: [])))))))))) (fun n_3 x_1 x_2 x_2a x_2c x_2B => [(0, (Value.func (.yield l7) [].toArray [].toArray)), (2, (Value.pointer (some ⟨r6, 0, none⟩))), (6, (Value.pointer (some ⟨r1, 0, none⟩))), (7, (vi ((x_1 : Nat) : Int)))]) (fun n_3 x_1 x_2 x_2a x_2c x_2B => 64 - x_1 < n_3 ∧ Is (Zf key l (64 + 1) 0 []) (Zf key l n_3 x_1 x_2) ∧ Bi Xk 1 5 x_2a x_2c x_2B x_2 ∧ x_2.length = x_1 ∧ x_1 ≤ 64) (fun n_3 x_1 x_2 x_2a x_2c x_2B => n_3) (64 + 1) 0 ([]) none 0 ([]) ?_ se (List.Perm.refl _) ?_
 ·exact ⟨Nat.lt_succ_self _, Is.refl _, Bi.nil, Qc, Qc⟩
 ·rintro (_ | n_3) x_1 x_2 x_2a x_2c x_2B ⟨hm5, hF4, hx_2, hi6, hi7⟩
  ·omega
  refine Tx ?_
  refine Bd rfl (fun hq1 => ?_) (fun hq1 => ?_)
  ·refine Br ?_
   refine Gv ?_
   refine G8 ?_
   refine Wh ?_
   refine Ad (Nw x_1 x_1 runUnderlying226 sizeOf5 (hm := Da)) (k := ?_)
   refine Ad (Pl (m := x_1) (xs := (Je (key.take 64) ++ (List.replicate 64 (0 : Int)).drop key.length)) isAgg5 Da) (k := ?_)
   refine Ew ?_
   refine Ad (Bb isAgg5) (k := ?_)
   refine aB ?_
   refine Jt (vs := [(Value.int .u8 (Fr .u8 ((Je (key.take 64) ++ (List.replicate 64 (0 : Int)).drop key.length).getD x_1 default) 54))]) hl7 (qc q0) Dh ?_
   refine cR ?_
   refine Dn ?_
   refine Ad (Bb isAgg174) (k := ?_)
   refine Cg ?_
   refine Aj Ae tV (k := fun r8 hr8 => ?_)
   refine Ar (x_2 ++ ([(Fr .u8 ((Je (key.take 64) ++ (List.replicate 64 (0 : Int)).drop key.length).getD x_1 default) 54)] : List Int)) rfl Oo underlying174 Bm hx_2 (qb (qb q0)) (Ch.lit (xs := ([(Fr .u8 ((Je (key.take 64) ++ (List.replicate 64 (0 : Int)).drop key.length).getD x_1 default) 54)] : List Int)) Bm) ⟨by omega, by omega⟩ (n := x_2.length) (m := 1) (k := fun ax1 cx1 Bx1 hox1 => ?_)
   have hal1 : (x_2 ++ ([(Fr .u8 ((Je (key.take 64) ++ (List.replicate 64 (0 : Int)).drop key.length).getD x_1 default) 54)] : List Int)).length = x_2.length + 1 := by first | rfl | exact List.length_append | simp
   refine Eh (Bc (l' := [_]) sizeOf174) (k := ?_)
   refine rR ?_
   refine Oc ?_
   refine Pb ?_
   refine Dj _ (((((((((qa (qc (qa (qa (qa (qa (qa (qa (qa q0))))))))).trans (qa (qa (qc (qa (qa (qa (qa (qa (qa q0)))))))))).trans (qa (qa (qa (qc (qa (qa (qa (qa (qa q0)))))))))).trans (qa (qa (qa (qa (qc (qa (qa (qa (qa q0)))))))))).trans (qa (qa (qa (qa (qa (qc (qa (qa (qa q0)))))))))).trans (qa (qa (qa (qa (qa (qa (qc (qa (qa q0)))))))))).trans (qa (qa (qa (qa (qa (qa (qa (qc (qa q0)))))))))).trans (qa (qa (qa (qa (qa (qa (qa q0)))))))).trans (qb (qb (qb (qb (qb (qb (qb (qb q0))))))))) ?_
   refine Cc _ (List.Sublist.append Xw (List.Sublist.cons_cons _ (List.Sublist.cons_cons _ R8))) ?_
   exact Hx n_3 (x_1 + 1) (x_2 ++ ([(Fr .u8 ((Je (key.take 64) ++ (List.replicate 64 (0 : Int)).drop key.length).getD x_1 default) 54)] : List Int)) ax1 cx1 Bx1 ⟨by omega, (hF4.pos hq1), hox1, z8, z8⟩ (Nat.lt_succ_self _) se (List.Perm.refl _)
  refine Cu ?_
  refine Jl ?_
  refine Gg (.inr rfl) results241 (qc q0) ?_
  refine A8 ?_
  refine Ez ?_
  refine pA  ( ((l7, Cb rr7 .exhausted none) :: (x_2B ++ ((rD7, Obj.deferred (some [])) :: ((r6, oc [(Value.int .u8 54)] 5) :: ((r5, oc [(Value.pointer (some ⟨r1, 0, none⟩))] 227) :: ((r4, oc [(vs x_2a x_2.length x_2c)] 174) :: ((r3, oc [(Value.pointer (some ⟨r1, 0, none⟩))] 229) :: ((r2, oc [(Value.pointer (some ⟨r1, 0, none⟩))] 229) :: ((r1, Obj.cells (aI .u8 (Je (key.take 64) ++ (List.replicate 64 (0 : Int)).drop key.length)).toArray 226) :: [])))))))))) ( [(6, (Value.string (bs (Kz ((Md x_2) ++ (Lib.join l ([] : Ai)))))))]) ( Is () ()) ?_ ?_
  ·skip
   refine Ui (V := []) mixed 7 z6 ?_
   refine Ci 0 rfl z6 (Bb isAgg174) (k := ?_)
   refine Ci 2 rfl z6 Fp (k := ?_)
   refine Bn [1, 3] z6 rfl (List.forall_mem_cons.2 ⟨?_, (List.forall_mem_cons.2 ⟨?_, nofun⟩)⟩)
   ·skip
    refine sK rfl (bA underlying9 underlying174 underlying5 (hx_2.slj Bm)) (k := ?_)
    refine Bn [3] z6 rfl (List.forall_mem_cons.2 ⟨?_, nofun⟩)
    ·skip
     refine AM7 ?_
     have hjl_36544 : (Lib.join l ([] : Ai)).length ≤ 100000 := by first | omega | (rw [Mj, Gi]; omega)
     refine Ci 4 rfl z6 (aV (s := (Md x_2)) (s' := (Lib.join l ([] : Ai))) (h := by (simp only [Cq]; omega))) (k := ?_)
     have hsa3 : ((Md x_2) ++ (Lib.join l ([] : Ai))).length = (Md x_2).length + (Lib.join l ([] : Ai)).length := by simp only [List.length_append, List.length_cons, List.length_nil, Nat.zero_add]
     refine Bn [5] z6 rfl (List.forall_mem_cons.2 ⟨?_, nofun⟩)
     ·skip
      refine AM8 ?_
      have hsum_53659 := Gi ((Md x_2) ++ (Lib.join l ([] : Ai)))
      refine F7 ?_
      refine Ef ?_
      exact Ur  (Is.refl ()) se (List.Perm.refl _)
   ·skip
    refine AM7 ?_
    have hjl_36544 : (Lib.join l ([] : Ai)).length ≤ 100000 := by first | omega | (rw [Mj, Gi]; omega)
    refine Bn [1] z6 rfl (List.forall_mem_cons.2 ⟨?_, nofun⟩)
    ·skip
     refine sK rfl (bA underlying9 underlying174 underlying5 (hx_2.slj Bm)) (k := ?_)
     refine Ci 4 rfl z6 (aV (s := (Md x_2)) (s' := (Lib.join l ([] : Ai))) (h := by (simp only [Cq]; omega))) (k := ?_)
     have hsa4 : ((Md x_2) ++ (Lib.join l ([] : Ai))).length = (Md x_2).length + (Lib.join l ([] : Ai)).length := by simp only [List.length_append, List.length_cons, List.length_nil, Nat.zero_add]
     refine Bn [5] z6 rfl (List.forall_mem_cons.2 ⟨?_, nofun⟩)
     ·skip
      refine AM8 ?_
      have hsum_53659 := Gi ((Md x_2) ++ (Lib.join l ([] : Ai)))
      refine F7 ?_
      refine Ef ?_
      exact Ur  (Is.refl ()) se (List.Perm.refl _)
  intro  hJ8
  refine Gv ?_
  refine aE ?_
  refine Ix [rD7] (qa (qc q0)) results131 z1 ?_
  refine Aj Ae S2 (k := fun r169 hr169 => ?_)
  refine Ut (args := [_, _, _]) (Aa call131) func131 ntmps131 ?_
  refine Z2 ?_
  refine Aj Ae Qh (k := fun r170 hr170 => ?_)
  refine Oy ?_
  refine Aj Ae (Bz (l := [_]) zeroValue174) (k := fun r171 hr171 => ?_)
  refine Jk ?_
  refine Z2 ?_
  refine Ad (Al kU) (k := ?_)
  refine Ad (Bb isAgg227) (k := ?_)
  refine Cg ?_
  refine Bh (args := [_, _]) (Aa call191) func191 ntmps191 ?_
  refine Z2 ?_
  refine Aj Ae Qh (k := fun r172 hr172 => ?_)
  refine Aj Ae Qh (k := fun r173 hr173 => ?_)
  refine Uc ?_
  refine Av results191 z1 ?_
  refine Kt ?_
  refine Fc Ae rfl call241 func241 ntmps241 (fun l174 rD174 rr174 hl174 => ?_)
  refine Ye ?_
  refine Ad (Bb isAgg227) (k := ?_)
  refine Lt ?_
  refine Na (σ1 := Nat) (σ2 := Nat) (σ3 := List Int) (σ4 := Option Addr) (σ5 := Nat) (σ6 := Am) (fun n_11 x_9 x_10 x_10a x_10c x_10B => (x_10B ++ ((l174, Cb rr174 .ready none) :: ((rD174, Obj.deferred (some [])) :: ((r173, oc [(Value.int .u8 92)] 5) :: ((r172, oc [(Value.pointer (some ⟨r1, 0, none⟩))] 227) :: ((r171, oc [(vs x_10a x_10.length x_10c)] 174) :: ((r170, oc [(Value.pointer (some ⟨r1, 0, none⟩))] 229) :: ((r169, oc [(Value.string (bs (Kz ((Md x_2) ++ (Lib.join l ([] : Ai))))))] 9) :: ((l7, Cb rr7 .exhausted none) :: (x_2B ++ ((r6, oc [(Value.int .u8 54)] 5) :: ((r5, oc [(Value.pointer (some ⟨r1, 0, none⟩))] 227) :: ((r4, oc [(vs x_2a x_2.length x_2c)] 174) :: ((r3, oc [(Value.pointer (some ⟨r1, 0, none⟩))] 229) :: ((r2, oc [(Value.pointer (some ⟨r1, 0, none⟩))] 229) :: ((r1, Obj.cells (aI .u8 (Je (key.take 64) ++ (List.replicate 64 (0 : Int)).drop key.length)).toArray 226) :: []))))))))))))))))) (fun n_11 x_9 x_10 x_10a x_10c x_10B => [(0, (Value.func (.yield l174) [].toArray [].toArray)), (2, (Value.pointer (some ⟨r173, 0, none⟩))), (6, (Value.pointer (some ⟨r1, 0, none⟩))), (7, (vi ((x_9 : Nat) : Int)))]) (fun n_11 x_9 x_10 x_10a x_10c x_10B => 64 - x_9 < n_11 ∧ Is (Ze key l x_1 x_2 (64 + 1) 0 []) (Ze key l x_1 x_2 n_11 x_9 x_10) ∧ Bi Xk 1 5 x_10a x_10c x_10B x_10 ∧ x_10.length = x_9 ∧ x_9 ≤ 64) (fun n_11 x_9 x_10 x_10a x_10c x_10B => n_11) (64 + 1) 0 ([]) none 0 ([]) ?_ se (List.Perm.refl _) ?_
  ·exact ⟨Nat.lt_succ_self _, Is.refl _, Bi.nil, Qc, Qc⟩
  ·rintro (_ | n_11) x_9 x_10 x_10a x_10c x_10B ⟨hm13, hF12, hx_10, hi14, hi15⟩
   ·omega
   refine Tx ?_
   refine Bd rfl (fun hq2 => ?_) (fun hq2 => ?_)
   ·refine Br ?_
    refine Gv ?_
    refine G8 ?_
    refine Wh ?_
    refine Ad (Nw x_9 x_9 runUnderlying226 sizeOf5 (hm := Da)) (k := ?_)
    refine Ad (Pl (m := x_9) (xs := (Je (key.take 64) ++ (List.replicate 64 (0 : Int)).drop key.length)) isAgg5 Da) (k := ?_)
    refine Ew ?_
    refine Ad (Bb isAgg5) (k := ?_)
    refine aB ?_
    refine Jt (vs := [(Value.int .u8 (Fr .u8 ((Je (key.take 64) ++ (List.replicate 64 (0 : Int)).drop key.length).getD x_9 default) 92))]) hl174 (qc q0) Dh ?_
    refine cR ?_
    refine Dn ?_
    refine Ad (Bb isAgg174) (k := ?_)
    refine Cg ?_
    refine Aj Ae tV (k := fun r175 hr175 => ?_)
    refine Ar (x_10 ++ ([(Fr .u8 ((Je (key.take 64) ++ (List.replicate 64 (0 : Int)).drop key.length).getD x_9 default) 92)] : List Int)) rfl Oo underlying174 Bm hx_10 (qb (qb q0)) (Ch.lit (xs := ([(Fr .u8 ((Je (key.take 64) ++ (List.replicate 64 (0 : Int)).drop key.length).getD x_9 default) 92)] : List Int)) Bm) ⟨by omega, by omega⟩ (n := x_10.length) (m := 1) (k := fun ax162 cx162 Bx162 hox162 => ?_)
    have hal162 : (x_10 ++ ([(Fr .u8 ((Je (key.take 64) ++ (List.replicate 64 (0 : Int)).drop key.length).getD x_9 default) 92)] : List Int)).length = x_10.length + 1 := by first | rfl | exact List.length_append | simp
    refine Eh (Bc (l' := [_]) sizeOf174) (k := ?_)
    refine rR ?_
    refine Oc ?_
    refine Pb ?_
    refine Dj _ ((((((((((((((((qa (qc (qa (qa (qa (qa (qa (qa (qa (qa (qc (qa (qa (qa (qa (qa q0)))))))))))))))).trans (qa (qa (qc (qa (qa (qa (qa (qa (qa (qa (qa (qc (qa (qa (qa (qa q0))))))))))))))))).trans (qa (qa (qa (qc (qa (qa (qa (qa (qa (qa (qa (qa (qc (qa (qa (qa q0))))))))))))))))).trans (qa (qa (qa (qa (qc (qa (qa (qa (qa (qa (qa (qa (qa (qc (qa (qa q0))))))))))))))))).trans (qa (qa (qa (qa (qa (qc (qa (qa (qa (qa (qa (qa (qa (qa (qc (qa q0))))))))))))))))).trans (qa (qa (qa (qa (qa (qa (qc (qa (qa (qa (qa (qa (qa (qa (qa (qc q0))))))))))))))))).trans (qb (qb (qb (qb (qb (qb (qb (qd (qb (qb (qb (qb (qb (qb (qb (qb q0))))))))))))))))).trans (qc (qa (qa (qa (qa (qa (qa (qa (qc (qa (qa (qa (qa (qa (qa (qa q0))))))))))))))))).trans (qa (qc (qa (qa (qa (qa (qa (qa (qa (qc (qa (qa (qa (qa (qa (qa q0))))))))))))))))).trans (qa (qa (qc (qa (qa (qa (qa (qa (qa (qa (qc (qa (qa (qa (qa (qa q0))))))))))))))))).trans (qa (qa (qa (qc (qa (qa (qa (qa (qa (qa (qa (qc (qa (qa (qa (qa q0))))))))))))))))).trans (qa (qa (qa (qa (qc (qa (qa (qa (qa (qa (qa (qa (qc (qa (qa (qa q0))))))))))))))))).trans (qa (qa (qa (qa (qa (qc (qa (qa (qa (qa (qa (qa (qa (qc (qa (qa q0))))))))))))))))).trans (qa (qa (qa (qa (qa (qa (qc (qa (qa (qa (qa (qa (qa (qa (qc (qa q0))))))))))))))))).trans (qa (qa (qa (qa (qa (qa (qa (qc (qa (qa (qa (qa (qa (qa q0))))))))))))))).trans (qb (qb (qb (qb (qb (qb (qb (qb (qd (qb (qb (qb (qb (qb (qb q0)))))))))))))))) ?_
    refine Cc _ (List.Sublist.append Xw (List.Sublist.cons_cons _ (List.Sublist.cons_cons _ (List.Sublist.cons_cons _ (List.Sublist.cons_cons _ (List.Sublist.cons_cons _ (List.Sublist.cons_cons _ (List.Sublist.cons_cons _ (List.Sublist.cons_cons _ (List.Sublist.append Xw R8)))))))))) ?_
    exact Hx n_11 (x_9 + 1) (x_10 ++ ([(Fr .u8 ((Je (key.take 64) ++ (List.replicate 64 (0 : Int)).drop key.length).getD x_9 default) 92)] : List Int)) ax162 cx162 Bx162 ⟨by omega, (hF12.pos hq2), hox162, z8, z8⟩ (Nat.lt_succ_self _) se (List.Perm.refl _)
   refine Cu ?_
   refine Jl ?_
   refine Gg (.inr rfl) results241 (qc q0) ?_
   refine A8 ?_
   refine Ez ?_
   refine pA  ( ((l174, Cb rr174 .exhausted none) :: (x_10B ++ ((rD174, Obj.deferred (some [])) :: ((r173, oc [(Value.int .u8 92)] 5) :: ((r172, oc [(Value.pointer (some ⟨r1, 0, none⟩))] 227) :: ((r171, oc [(vs x_10a x_10.length x_10c)] 174) :: ((r170, oc [(Value.pointer (some ⟨r1, 0, none⟩))] 229) :: ((r169, oc [(Value.string (bs (Kz ((Md x_2) ++ (Lib.join l ([] : Ai))))))] 9) :: ((l7, Cb rr7 .exhausted none) :: (x_2B ++ ((r6, oc [(Value.int .u8 54)] 5) :: ((r5, oc [(Value.pointer (some ⟨r1, 0, none⟩))] 227) :: ((r4, oc [(vs x_2a x_2.length x_2c)] 174) :: ((r3, oc [(Value.pointer (some ⟨r1, 0, none⟩))] 229) :: ((r2, oc [(Value.pointer (some ⟨r1, 0, none⟩))] 229) :: ((r1, Obj.cells (aI .u8 (Je (key.take 64) ++ (List.replicate 64 (0 : Int)).drop key.length)).toArray 226) :: []))))))))))))))))) ( [(6, (Value.string (bs (Kz ((Md x_10) ++ (Lib.join ([(Kz ((Md x_2) ++ (Lib.join l ([] : Ai))))] : List Ai) ([] : Ai)))))))]) ( Is () ()) ?_ ?_
   ·skip
    refine Ui (V := []) mixed 7 z6 ?_
    refine Ci 0 rfl z6 (Bb isAgg174) (k := ?_)
    refine Ci 2 rfl z6 Fp (k := ?_)
    refine Bn [1, 3] z6 rfl (List.forall_mem_cons.2 ⟨?_, (List.forall_mem_cons.2 ⟨?_, nofun⟩)⟩)
    ·skip
     refine sK rfl (bA underlying9 underlying174 underlying5 (hx_10.slj Bm)) (k := ?_)
     refine Bn [3] z6 rfl (List.forall_mem_cons.2 ⟨?_, nofun⟩)
     ·skip
      refine AM9 ?_
      have hjl_28132 : (Lib.join ([(Kz ((Md x_2) ++ (Lib.join l ([] : Ai))))] : List Ai) ([] : Ai)).length ≤ 100000 := by first | omega | (rw [Mj, Gi]; omega)
      refine AN0 ?_
      have hsa7 : ((Md x_10) ++ (Lib.join ([(Kz ((Md x_2) ++ (Lib.join l ([] : Ai))))] : List Ai) ([] : Ai))).length = (Md x_10).length + (Lib.join ([(Kz ((Md x_2) ++ (Lib.join l ([] : Ai))))] : List Ai) ([] : Ai)).length := by simp only [List.length_append, List.length_cons, List.length_nil, Nat.zero_add]
      refine Bn [5] z6 rfl (List.forall_mem_cons.2 ⟨?_, nofun⟩)
      ·skip
       refine AN1 ?_
       have hsum_10167 := Gi ((Md x_10) ++ (Lib.join ([(Kz ((Md x_2) ++ (Lib.join l ([] : Ai))))] : List Ai) ([] : Ai)))
       refine F7 ?_
       refine Ef ?_
       exact Ur  (Is.refl ()) se (List.Perm.refl _)
    ·skip
     refine AM9 ?_
     have hjl_28132 : (Lib.join ([(Kz ((Md x_2) ++ (Lib.join l ([] : Ai))))] : List Ai) ([] : Ai)).length ≤ 100000 := by first | omega | (rw [Mj, Gi]; omega)
     refine Bn [1] z6 rfl (List.forall_mem_cons.2 ⟨?_, nofun⟩)
     ·skip
      refine sK rfl (bA underlying9 underlying174 underlying5 (hx_10.slj Bm)) (k := ?_)
      refine AN0 ?_
      have hsa8 : ((Md x_10) ++ (Lib.join ([(Kz ((Md x_2) ++ (Lib.join l ([] : Ai))))] : List Ai) ([] : Ai))).length = (Md x_10).length + (Lib.join ([(Kz ((Md x_2) ++ (Lib.join l ([] : Ai))))] : List Ai) ([] : Ai)).length := by simp only [List.length_append, List.length_cons, List.length_nil, Nat.zero_add]
      refine Bn [5] z6 rfl (List.forall_mem_cons.2 ⟨?_, nofun⟩)
      ·skip
       refine AN1 ?_
       have hsum_10167 := Gi ((Md x_10) ++ (Lib.join ([(Kz ((Md x_2) ++ (Lib.join l ([] : Ai))))] : List Ai) ([] : Ai)))
       refine F7 ?_
       refine Ef ?_
       exact Ur  (Is.refl ()) se (List.Perm.refl _)
   intro  hJ16
   refine Gv ?_
   refine aE ?_
   refine Ix [rD174] (qa (qc q0)) results131 z1 ?_
   refine Z5 ?_
   refine Ac results80 z1 (fun w1 hw1 => ?_)
   exact ⟨(rq ((((hF.rn2 (hF4.neg hq1)).rn0 hJ8).rn2 (hF12.neg hq2)).rn0 hJ16)), hw1.ext_out⟩

theorem yO (w : World) {a : Ai} {b : Ai} (n_a : a.length ≤ 1000000) (n_b : b.length ≤ 1000000) : Gz Tryz.prog 50 [(vt a), (vt b)] w (Value.bool (yC a b)) := by
 have hF := Is.refl (yC a b)
 refine enter func50 ntmps50 (h := ?_)
 refine J5 ?_
 refine Cg ?_
 refine fJ ?_
 refine aB ?_
 refine Hc ?_
 refine fJ ?_
 refine Cg ?_
 refine fJ ?_
 refine Ad wQ (k := ?_)
 refine Lt ?_
 refine Kb (σ1 := Nat) (σ2 := Nat) (σ3 := Int) (fun n_3 x_1 differ_2 => []) (fun n_3 x_1 differ_2 => [(0, (vt a)), (1, (vt b)), (4, (Value.bool false)), (5, (vi differ_2)), (16, (vi (if ((b.length : Nat) : Int) < ((a.length : Nat) : Int) then ((b.length : Nat) : Int) else ((a.length : Nat) : Int)))), (17, (vi ((x_1 : Nat) : Int)))]) (fun n_3 x_1 differ_2 => ((if ((b.length : Nat) : Int) < ((a.length : Nat) : Int) then ((b.length : Nat) : Int) else ((a.length : Nat) : Int)) - ((x_1 : Nat) : Int)).toNat < n_3 ∧ Is (Vc a b (((if ((b.length : Nat) : Int) < ((a.length : Nat) : Int) then ((b.length : Nat) : Int) else ((a.length : Nat) : Int)) - ((0 : Nat) : Int)).toNat + 1) 0 (Fr .i64 ((a.length : Nat) : Int) ((b.length : Nat) : Int))) (Vc a b n_3 x_1 differ_2)) (fun n_3 x_1 differ_2 => n_3) (((if ((b.length : Nat) : Int) < ((a.length : Nat) : Int) then ((b.length : Nat) : Int) else ((a.length : Nat) : Int)) - ((0 : Nat) : Int)).toNat + 1) 0 (Fr .i64 ((a.length : Nat) : Int) ((b.length : Nat) : Int)) ?_ se (List.Perm.refl _) ?_
 ·exact ⟨Nat.lt_succ_self _, Is.refl _⟩
 ·rintro (_ | n_3) x_1 differ_2 ⟨hm5, hF4⟩
  ·omega
  refine Tx ?_
  refine Bd rfl (fun hq1 => ?_) (fun hq1 => ?_)
  rotate_left
  ·refine Cu ?_
   refine Kg ?_
   refine Z3 ?_
   refine mK ?_
   refine Ac results50 z1 (fun w1 hw1 => ?_)
   exact ⟨(rq (hF.rn2 (hF4.neg hq1))), hw1.ext_out⟩
  refine Qd ?_
  refine Vx ?_
  refine Z1 ?_
  refine Dw mixed 11 [(true, 0), (true, 1), (true, 2), (true, 3), (true, 4), (true, 5), (true, 6), (true, 7), (false, 8), (true, 9), (true, 10)] z6 ?_
  refine Mp ?_
  refine Fi ?_
  have hu23 := pF (a.getD x_1 default)
  refine Ay (fY (s := a) x_1 runUnderlying9 Da) (k := ?_)
  refine Mp ?_
  have hu26 := pF (b.getD x_1 default)
  refine Ay (fY (s := b) x_1 runUnderlying9 Da) (k := ?_)
  refine Ay nH (k := ?_)
  refine Ay (Js (r := (Fr .u8 (((a.getD x_1 default).toNat : Nat) : Int) (((b.getD x_1 default).toNat : Nat) : Int))) (Gx (by first | omega | exact Nd _ _)) runUnderlying5 runUnderlying3) (k := ?_)
  refine Ay aW (k := ?_)
  refine Z27 ?_
  refine fD ?_
  exact Gt n_3 (x_1 + 1) (jZ .i64 differ_2 (Fr .u8 (((a.getD x_1 default).toNat : Nat) : Int) (((b.getD x_1 default).toNat : Nat) : Int))) ⟨by omega, (hF4.pos hq1)⟩ (Nat.lt_succ_self _) se (List.Perm.refl _)

theorem yP (w : World) {ea0 : Addr} {ea1 : Addr} {ea2 : Addr} {ea3 : Addr} {ea4 : Addr} {ea5 : Addr} {ea6 : Addr} {ea7 : Addr} {ea8 : Addr} {ea9 : Addr} {ea10 : Addr} {ea11 : Addr} {ea12 : Addr} {ea13 : Addr} {ea14 : Addr} {ea15 : Addr} {a : Int} {b : Int} (i_a : -9223372036854775808 ≤ a ∧ a ≤ 9223372036854775807) (i_b : -9223372036854775808 ≤ b ∧ b ≤ 9223372036854775807) (hG : Gl w) (hE : Er w ea0 ea1 ea2 ea3 ea4 ea5 ea6 ea7 ea8 ea9 ea10 ea11 ea12 ea13 ea14 ea15) : Gz Tryz.prog 16 [(vi a), (vi b)] w (Value.tuple [(vt ((Ol a b).1)), (vi ((Ol a b).2))].toArray) := by
 have hF := Is.refl (Ol a b)
 refine enter func16 ntmps16 (h := ?_)
 refine Z2 ?_
 refine Hr ?_
 refine Oy ?_
 refine Aj Ae S2 (k := fun r1 hr1 => ?_)
 refine Jj ?_
 refine Qp ?_
 refine Aj Ae z48 (k := fun r2 hr2 => ?_)
 refine fK ?_
 refine Zx ?_
 refine Ad (Dl (n := 2) runUnderlying24 sizeOf3 0 (Ch.lit (xs := ([a, b] : List Int)) Au) (gD Da) Lp) (k := ?_)
 refine Ad (Cr isAgg3 0 0 (Ch.lit (xs := ([a, b] : List Int)) Au) (gD Da)) (k := ?_)
 refine Aj Ae S5 (k := fun r3 hr3 => ?_)
 refine rE ?_
 refine Vz ?_
 obtain ⟨Thgl1, fhgl1, hgl1⟩ := hE.v2
 refine Ad (Dp isAgg93 hgl1) (k := ?_)
 refine E7 ?_
 refine Bh (args := [_]) (Aa call44) func44 ntmps44 ?_
 refine Jn ?_
 refine mI ?_
 refine Aw 4 rfl (fun hq2 => ?_) (fun hq2 => ?_)
 rotate_left
 ·refine Ag 2 rfl ?_
  refine Lr ?_
  refine I8 ?_
  refine Pa ?_
  refine Pc ?_
  refine rH ?_
  refine uP ?_
  refine qX ?_
  refine cW ?_
  obtain ⟨Thgl13, fhgl13, hgl13⟩ := hE.v6
  refine Ad (Dp isAgg93 hgl13) (k := ?_)
  refine uI ?_
  refine Qu ?_
  obtain ⟨Thgl14, fhgl14, hgl14⟩ := hE.v2
  refine Ad (Dp isAgg93 hgl14) (k := ?_)
  refine uM ?_
  refine rF ?_
  refine Ks ?_
  refine cX ?_
  refine Ac results16 (Bk.tmp rfl z1) (fun w1 hw1 => ?_)
  exact ⟨(rq (hF.neg hq2)), hw1.ext_out⟩
 refine eW ?_
 refine Ry ?_
 refine I8 ?_
 refine Bd rfl (fun hq3 => ?_) (fun hq3 => ?_)
 rotate_left
 ·refine Br ?_
  refine Gv ?_
  refine Pc ?_
  refine rH ?_
  refine uP ?_
  refine qX ?_
  refine cW ?_
  obtain ⟨Thgl11, fhgl11, hgl11⟩ := hE.v6
  refine Ad (Dp isAgg93 hgl11) (k := ?_)
  refine uI ?_
  refine Qu ?_
  obtain ⟨Thgl12, fhgl12, hgl12⟩ := hE.v2
  refine Ad (Dp isAgg93 hgl12) (k := ?_)
  refine uM ?_
  refine rF ?_
  refine Ks ?_
  refine cX ?_
  refine Ac results16 (Bk.tmp rfl z1) (fun w1 hw1 => ?_)
  exact ⟨(rq ((hF.pos hq2).neg hq3)), hw1.ext_out⟩
 refine Z2 ?_
 refine Qr ?_
 refine rH ?_
 refine uS ?_
 refine Pa ?_
 refine Lq ?_
 refine Hk ?_
 refine Co (args := [(vi (([a, b] : List Int).getD 0 default))]) (Aa call46) (fun w1 hw1 => Nf w1 (n := (([a, b] : List Int).getD 0 default)) (hG := hG.ext hw1.ext_out) (hn := Qg)) (k := ?_)
 have hil_64779 := Eb (n := (([a, b] : List Int).getD 0 default)) z8
 refine Aj Ae S2 (k := fun r4 hr4 => ?_)
 refine Ar (([([99, 104, 97, 108, 108, 101, 110, 103, 101] : Ai)] : List Ai) ++ ([(Lib.itoa (([a, b] : List Int).getD 0 default))] : List Ai)) rfl sW underlying106 Km (Bi.mk (xs := ([([99, 104, 97, 108, 108, 101, 110, 103, 101] : Ai)] : List Ai)) rfl rfl Km) (qa (qa (qa q0))) (Ch.lit (xs := ([(Lib.itoa (([a, b] : List Int).getD 0 default))] : List Ai)) Km) ⟨by omega, by omega⟩ (n := 1) (m := 1) (k := fun ax1 cx1 Bx1 hox1 => ?_)
 have hal1 : (([([99, 104, 97, 108, 108, 101, 110, 103, 101] : Ai)] : List Ai) ++ ([(Lib.itoa (([a, b] : List Int).getD 0 default))] : List Ai)).length = 1 + 1 := by first | rfl | exact List.length_append | simp
 refine Mo ?_
 refine lM ?_
 refine Ad (Dl (n := 2) runUnderlying24 sizeOf3 1 (Ch.lit (xs := ([a, b] : List Int)) Au) (gD Da) Lp) (k := ?_)
 refine Ad (Cr isAgg3 1 0 (Ch.lit (xs := ([a, b] : List Int)) Au) (gD Da)) (k := ?_)
 refine Aj Ae S5 (k := fun r5 hr5 => ?_)
 refine rE ?_
 refine Vz ?_
 obtain ⟨Thgl4, fhgl4, hgl4⟩ := hE.v2
 refine Ad (Dp isAgg93 hgl4) (k := ?_)
 refine E7 ?_
 refine Bh (args := [_]) (Aa call44) func44 ntmps44 ?_
 refine Jn ?_
 refine mI ?_
 refine Aw 4 rfl (fun hq5 => ?_) (fun hq5 => ?_)
 rotate_left
 ·refine Ag 2 rfl ?_
  refine Lr ?_
  refine I8 ?_
  refine Pa ?_
  refine Pc ?_
  refine rH ?_
  refine uP ?_
  refine qX ?_
  refine cW ?_
  obtain ⟨Thgl9, fhgl9, hgl9⟩ := hE.v6
  refine Ad (Dp isAgg93 hgl9) (k := ?_)
  refine uI ?_
  refine Qu ?_
  obtain ⟨Thgl10, fhgl10, hgl10⟩ := hE.v2
  refine Ad (Dp isAgg93 hgl10) (k := ?_)
  refine uM ?_
  refine rF ?_
  refine Ks ?_
  refine cX ?_
  refine Ac results16 (Bk.tmp rfl z1) (fun w1 hw1 => ?_)
  exact ⟨(rq (((hF.pos hq2).pos hq3).neg hq5)), hw1.ext_out⟩
 refine eW ?_
 refine Ry ?_
 refine I8 ?_
 refine Bd rfl (fun hq6 => ?_) (fun hq6 => ?_)
 ·refine Bw ?_
  refine Yf ?_
  refine rH ?_
  refine uS ?_
  refine Pa ?_
  refine Lq ?_
  refine Hk ?_
  refine Co (args := [(vi (([a, b] : List Int).getD 1 default))]) (Aa call46) (fun w1 hw1 => Nf w1 (n := (([a, b] : List Int).getD 1 default)) (hG := hG.ext hw1.ext_out) (hn := Qg)) (k := ?_)
  have hil_94773 := Eb (n := (([a, b] : List Int).getD 1 default)) z8
  refine Aj Ae S2 (k := fun r6 hr6 => ?_)
  refine Ar ((([([99, 104, 97, 108, 108, 101, 110, 103, 101] : Ai)] : List Ai) ++ ([(Lib.itoa (([a, b] : List Int).getD 0 default))] : List Ai)) ++ ([(Lib.itoa (([a, b] : List Int).getD 1 default))] : List Ai)) rfl sW underlying106 Km hox1 (qb (qb q0)) (Ch.lit (xs := ([(Lib.itoa (([a, b] : List Int).getD 1 default))] : List Ai)) Km) ⟨by omega, by omega⟩ (n := (([([99, 104, 97, 108, 108, 101, 110, 103, 101] : Ai)] : List Ai) ++ ([(Lib.itoa (([a, b] : List Int).getD 0 default))] : List Ai)).length) (m := 1) (k := fun ax2 cx2 Bx2 hox2 => ?_)
  have hal2 : ((([([99, 104, 97, 108, 108, 101, 110, 103, 101] : Ai)] : List Ai) ++ ([(Lib.itoa (([a, b] : List Int).getD 0 default))] : List Ai)) ++ ([(Lib.itoa (([a, b] : List Int).getD 1 default))] : List Ai)).length = (([([99, 104, 97, 108, 108, 101, 110, 103, 101] : Ai)] : List Ai) ++ ([(Lib.itoa (([a, b] : List Int).getD 0 default))] : List Ai)).length + 1 := by first | rfl | exact List.length_append | simp
  refine Mo ?_
  refine Zt ?_
  refine Z3 ?_
  refine Co (args := [(vs ax2 (((([([99, 104, 97, 108, 108, 101, 110, 103, 101] : Ai)] : List Ai) ++ ([(Lib.itoa (([a, b] : List Int).getD 0 default))] : List Ai)) ++ ([(Lib.itoa (([a, b] : List Int).getD 1 default))] : List Ai)).length) cx2), (vt ([32] : Ai))]) (Aa call48) (fun w1 hw1 => Zc w1 (h_xs := (hox2.slj Km) w1 hw1) (xs := ((([([99, 104, 97, 108, 108, 101, 110, 103, 101] : Ai)] : List Ai) ++ ([(Lib.itoa (([a, b] : List Int).getD 0 default))] : List Ai)) ++ ([(Lib.itoa (([a, b] : List Int).getD 1 default))] : List Ai))) (sep := ([32] : Ai)) (hc := hox2.le) (hn := Qg) (hl := Nat.le_trans (show (Lib.join ((([([99, 104, 97, 108, 108, 101, 110, 103, 101] : Ai)] : List Ai) ++ ([(Lib.itoa (([a, b] : List Int).getD 0 default))] : List Ai)) ++ ([(Lib.itoa (([a, b] : List Int).getD 1 default))] : List Ai)) ([32] : Ai)).length ≤ 100000 by (simp only [List.cons_append, List.nil_append]; rw [bH]; simp only [List.length_cons, List.length_nil]; omega)) (by decide))) (k := ?_)
  have hjl_59522 : (Lib.join ((([([99, 104, 97, 108, 108, 101, 110, 103, 101] : Ai)] : List Ai) ++ ([(Lib.itoa (([a, b] : List Int).getD 0 default))] : List Ai)) ++ ([(Lib.itoa (([a, b] : List Int).getD 1 default))] : List Ai)) ([32] : Ai)).length ≤ 100000 := by (simp only [List.cons_append, List.nil_append]; rw [bH]; simp only [List.length_cons, List.length_nil]; omega)
  refine Co (Aa call47) (fun w1 hw1 => gP w1 (s := (Lib.join ((([([99, 104, 97, 108, 108, 101, 110, 103, 101] : Ai)] : List Ai) ++ ([(Lib.itoa (([a, b] : List Int).getD 0 default))] : List Ai)) ++ ([(Lib.itoa (([a, b] : List Int).getD 1 default))] : List Ai)) ([32] : Ai))) (n_s := Nm) (hG := hG.ext hw1.ext_out)) (k := ?_)
  have hsum_34842 := Gi (Lib.join ((([([99, 104, 97, 108, 108, 101, 110, 103, 101] : Ai)] : List Ai) ++ ([(Lib.itoa (([a, b] : List Int).getD 0 default))] : List Ai)) ++ ([(Lib.itoa (([a, b] : List Int).getD 1 default))] : List Ai)) ([32] : Ai))
  refine Zw ?_
  refine Ac results16 (Bk.tmp rfl z1) (fun w1 hw1 => ?_)
  exact ⟨(rq ((((hF.pos hq2).pos hq3).pos hq5).pos hq6)), hw1.ext_out⟩
 refine Qd ?_
 refine Pc ?_
 refine rH ?_
 refine uP ?_
 refine qX ?_
 refine cW ?_
 obtain ⟨Thgl7, fhgl7, hgl7⟩ := hE.v6
 refine mP ?_
 refine uI ?_
 refine Qu ?_
 obtain ⟨Thgl8, fhgl8, hgl8⟩ := hE.v2
 refine rW ?_
 refine uM ?_
 refine rF ?_
 refine Ks ?_
 refine cX ?_
 refine Ac results16 (Bk.tmp rfl z1) (fun w1 hw1 => ?_)
 exact ⟨(rq ((((hF.pos hq2).pos hq3).pos hq5).neg hq6)), hw1.ext_out⟩

theorem pR (w : World) {ea0 : Addr} {ea1 : Addr} {ea2 : Addr} {ea3 : Addr} {ea4 : Addr} {ea5 : Addr} {ea6 : Addr} {ea7 : Addr} {ea8 : Addr} {ea9 : Addr} {ea10 : Addr} {ea11 : Addr} {ea12 : Addr} {ea13 : Addr} {ea14 : Addr} {ea15 : Addr} {key : Ai} {challenge : Ai} {name : Ai} (n_name : name.length ≤ 10000) (hG : Gl w) (hE : Er w ea0 ea1 ea2 ea3 ea4 ea5 ea6 ea7 ea8 ea9 ea10 ea11 ea12 ea13 ea14 ea15) : Gz Tryz.prog 33 [(vt key), (vt challenge), (vt name)] w (Value.tuple [(vt ((Hz key challenge name).1)), (vi ((Hz key challenge name).2))].toArray) := by
 have hF := Is.refl (Hz key challenge name)
 refine enter func33 ntmps33 (h := ?_)
 refine Z2 ?_
 refine Aj Ae Qh (k := fun r1 hr1 => ?_)
 refine Hr ?_
 refine Mu ?_
 refine Bh (args := [_]) (Aa call78) func78 ntmps78 ?_
 refine Z2 ?_
 refine Aj Ae Qh (k := fun r2 hr2 => ?_)
 refine iI ?_
 obtain ⟨Thgl1, fhgl1, hgl1⟩ := hE.v6
 refine Ad (Dp isAgg93 hgl1) (k := ?_)
 refine E7 ?_
 refine Bh (args := [_]) (Aa call129) func129 ntmps129 ?_
 refine Jn ?_
 refine Nn ?_
 refine Co (Aa call130) (fun w1 hw1 => Ww w1 (key := key)) (k := ?_)
 refine Z5 ?_
 refine Av results129 z1 ?_
 refine Z0 ?_
 refine Dc rfl (fun hq2 => ?_) (fun hq2 => ?_)
 rotate_left
 ·refine Br ?_
  refine Gv ?_
  refine Pc ?_
  refine vX ?_
  refine Z5 ?_
  refine Av results78 z1 ?_
  refine Hc ?_
  refine Ad (Xh (u := (Value.iface 400 (.pointer (some ea6)))) (v := Value.nilIface) (b := false) (fun w => by kernel_rfl)) (k := ?_)
  refine Z0 ?_
  refine Pa ?_
  refine vC ?_
  refine Ad (aY (u := (Value.iface 400 (.pointer (some ea6)))) (v := Value.nilIface) (b := true) (fun w => by kernel_rfl)) (k := ?_)
  refine Z0 ?_
  refine qX ?_
  refine cW ?_
  obtain ⟨Thgl7, fhgl7, hgl7⟩ := hE.v6
  refine mP ?_
  refine Co (args := [(Value.iface 400 (.pointer (some ea6))), (Value.iface 400 (.pointer (some ea6)))]) (Aa call81) (fun w1 hw1 => Hl w1) (k := ?_)
  refine Z1 ?_
  refine rF ?_
  refine Ks ?_
  refine Ac results33 (Bk.tmp rfl z1) (fun w1 hw1 => ?_)
  exact ⟨(rq (hF.f hq2)), hw1.ext_out⟩
 refine Z2 ?_
 refine Qr ?_
 refine vX ?_
 refine Z5 ?_
 refine Av results78 z1 ?_
 refine Hc ?_
 refine Ad (Xh (u := Value.nilIface) (v := Value.nilIface) (b := true) (fun w => by kernel_rfl)) (k := ?_)
 refine Z0 ?_
 refine Np rfl ?_
 refine Dn ?_
 refine Wf ?_
 obtain ⟨Thgl3, fhgl3, hgl3⟩ := hE.v2
 refine jF ?_
 refine E7 ?_
 refine Bh (args := [_]) (Aa call79) func79 ntmps79 ?_
 refine Jn ?_
 refine Nn ?_
 refine fJ ?_
 refine mK ?_
 refine Av results79 z1 ?_
 refine Z0 ?_
 refine Bd rfl (fun hq4 => ?_) (fun hq4 => ?_)
 ·refine Bw ?_
  refine Yf ?_
  refine vX ?_
  refine Hc ?_
  refine uS ?_
  refine Pa ?_
  refine Z3 ?_
  refine Nn ?_
  refine Cg ?_
  refine Aj Ae (Dd (l := [_, _]) runUnderlying106 sizeOf9 zeroValue9) (k := fun r3 hr3 => ?_)
  refine Co (Aa call80) (fun w1 hw1 => O6 w1 (key := key) (l := ([challenge, name] : List Ai)) (h_l := (Ch.lit (xs := ([challenge, name] : List Ai)) Km) w1 hw1) (n_l := Hs) (k_l := Hs) (hG := hG.ext hw1.ext_out) (hE := hE.ext hw1.ext_out) (hj := by first | (rw [yE]; simp only [List.length_nil]; omega) | (rw [Mj]; omega))) (k := ?_)
  have hmm_714 := kN key ([challenge, name] : List Ai)
  refine Zw ?_
  refine Ac results33 (Bk.tmp rfl z1) (fun w1 hw1 => ?_)
  exact ⟨(rq ((hF.t hq2).pos hq4)), hw1.ext_out⟩
 refine Qd ?_
 refine Pc ?_
 refine vX ?_
 refine Hc ?_
 refine uP ?_
 refine qX ?_
 refine cW ?_
 obtain ⟨Thgl5, fhgl5, hgl5⟩ := hE.v6
 refine rX ?_
 refine uI ?_
 refine Qu ?_
 obtain ⟨Thgl6, fhgl6, hgl6⟩ := hE.v2
 refine jG ?_
 refine uM ?_
 refine rF ?_
 refine Ks ?_
 refine Ac results33 (Bk.tmp rfl z1) (fun w1 hw1 => ?_)
 exact ⟨(rq ((hF.t hq2).neg hq4)), hw1.ext_out⟩

end Go.Proofs.YtdnjanhdnibkfaaGreatDoor.Jd

namespace Go.Proofs.YtdnjanhdnibkfaaGreatDoor.Jd
open Go.Proofs.Tryz
open Go.Proofs
set_option maxRecDepth 100000
open Go.RowKit Go.Extern.Stop Go.Stop Go.Extern
set_option linter.unusedVariables false
set_option linter.unusedSimpArgs false
theorem AE7 (t : Value) (w : World) : Calls Tryz.prog 128 #[.nilIface, t] w fun e w' => e = .returned (.bool false) ∧ w' = w := by
  go_enter func128, ntmps128
  go_wp2
  go_ret
  exact ⟨rfl, rfl⟩
theorem yQ (w : World) {t : Value} : Gz Tryz.prog 128 [.nilIface, t] w (.bool false) :=
  (AE7 t w).mono fun e w' ⟨he, hw⟩ => ⟨he, hw ▸ Below.refl _ _⟩
end Go.Proofs.YtdnjanhdnibkfaaGreatDoor.Jd

namespace Go.Proofs.YtdnjanhdnibkfaaGreatDoor.Jd
open Go.Proofs.Tryz
open Go.Proofs
open Go.RowKit (Below)
set_option maxRecDepth 100000
set_option maxHeartbeats 8000000
set_option linter.unusedVariables false
set_option linter.unusedSimpArgs false
theorem yR : Ba Tryz.prog 288 0 0 := fun r k w => by simp [Instr.fieldAt, Instr.sureAddr, fieldPlace, Ao]
theorem yS : Ba Tryz.prog 288 2 2 := fun r k w => by simp [Instr.fieldAt, Instr.sureAddr, fieldPlace, Ao]
theorem sX (w : World) {r : Int} : Gz Tryz.prog 227 [(vi r)] w (vi (Mg r)) := by
 have hF := Is.refl (Mg r)
 refine enter func227 ntmps227 (h := ?_)
 refine Jn ?_
 refine Hc ?_
 refine Kt ?_
 refine qM ?_
 refine qM ?_
 refine qM ?_
 refine Ez ?_
 refine Ez ?_
 refine Z2 ?_
 refine rU ?_
 refine Bd rfl (fun hq1 => ?_) (fun hq1 => ?_)
 ·refine Cu ?_
  refine Fw ?_
  refine Fw ?_
  refine iZ ?_
  refine Lq ?_
  refine mJ ?_
  refine mA ?_
  refine mJ ?_
  refine A8 ?_
  refine Z3 ?_
  refine Ad aW (k := ?_)
  refine Z1 ?_
  refine Cu ?_
  refine iZ ?_
  refine Pc ?_
  refine Ac results227 z1 (fun w1 hw1 => ?_)
  exact ⟨(rq (hF.pos hq1)), hw1.ext_out⟩
 refine cQ ?_
 refine Z2 ?_
 refine rU ?_
 refine Bd rfl (fun hq2 => ?_) (fun hq2 => ?_)
 ·refine Cu ?_
  refine Fw ?_
  refine mG ?_
  refine Fw ?_
  refine iZ ?_
  refine Lq ?_
  refine mJ ?_
  refine A8 ?_
  refine Z3 ?_
  refine Ad aW (k := ?_)
  refine Z1 ?_
  refine Cu ?_
  refine iZ ?_
  refine Pc ?_
  refine Ac results227 z1 (fun w1 hw1 => ?_)
  exact ⟨(rq ((hF.neg hq1).pos hq2)), hw1.ext_out⟩
 refine Wd ?_
 refine rU ?_
 refine Bd rfl (fun hq3 => ?_) (fun hq3 => ?_)
 rotate_left
 ·refine Br ?_
  refine Gv ?_
  refine fA ?_
  refine mG ?_
  refine mG ?_
  refine Fw ?_
  refine iZ ?_
  refine Pc ?_
  refine Ac results227 z1 (fun w1 hw1 => ?_)
  exact ⟨(rq (((hF.neg hq1).neg hq2).neg hq3)), hw1.ext_out⟩
 refine Cu ?_
 refine mG ?_
 refine mG ?_
 refine Fw ?_
 refine iZ ?_
 refine Z3 ?_
 refine Ad aW (k := ?_)
 refine Z1 ?_
 refine Cu ?_
 refine iZ ?_
 refine Pc ?_
 refine Ac results227 z1 (fun w1 hw1 => ?_)
 exact ⟨(rq (((hF.neg hq1).neg hq2).pos hq3)), hw1.ext_out⟩

theorem oC (w : World) {ea0 : Addr} {ea1 : Addr} {ea2 : Addr} {ea3 : Addr} {ea4 : Addr} {ea5 : Addr} {ea6 : Addr} {ea7 : Addr} {ea8 : Addr} {ea9 : Addr} {ea10 : Addr} {ea11 : Addr} {ea12 : Addr} {ea13 : Addr} {ea14 : Addr} {ea15 : Addr} {n_ : Int} (hG : Gl w) (hE : Er w ea0 ea1 ea2 ea3 ea4 ea5 ea6 ea7 ea8 ea9 ea10 ea11 ea12 ea13 ea14 ea15) : Calls Tryz.prog 125 (List.toArray [(vi n_)]) w fun e w2 => ∃ a1 : Option Addr, ∃ c1 : Nat, ∃ B1 : Am, e = .returned (vs a1 ((Ed n_).length) c1) ∧ Dz w w2 B1 ∧ Bi eI 1 3 a1 c1 B1 (Ed n_) ∧ (Ed n_).length ≤ 10 := by
 have hF := Is.refl (Ed n_)
 refine Pi func125 ntmps125 (h := ?_)
 refine Jn ?_
 refine Aj Ae (Bz (l := [_]) zeroValue24) (k := fun r1 hr1 => ?_)
 refine Jk ?_
 refine Z3 ?_
 refine Wf ?_
 refine Bh (args := [_]) (Aa call178) func178 ntmps178 ?_
 refine Z2 ?_
 refine Aj Ae Qh (k := fun r2 hr2 => ?_)
 refine Uc ?_
 refine Av results178 z1 ?_
 refine Kt ?_
 refine Fc Ae rfl call226 func226 ntmps226 (fun l3 rD3 rr3 hl3 => ?_)
 refine Ye ?_
 obtain ⟨Thgl1, fhgl1, hgl1⟩ := hG.vb
 refine Ad (wR isAgg358 sizeOf358 hgl1) (k := ?_)
 refine Zx ?_
 refine Ad (Jb (m := 0) (n := 3) runUnderlying358 sizeOf288 isAgg288) (k := ?_)
 refine Aj Ae Ii (k := fun r4 hr4 => ?_)
 refine Gs ?_
 refine Aj Ae Lb (k := fun r5 hr5 => ?_)
 refine Gr ?_
 refine Aw 12 rfl (fun hq2 => ?_) (fun hq2 => ?_)
 rotate_left
 ·refine Ag 4 rfl ?_
  refine Rx ?_
  refine cL ?_
  refine Ad (Jb (m := 1) (n := 3) runUnderlying358 sizeOf288 isAgg288) (k := ?_)
  refine Aj Ae Ii (k := fun r74 hr74 => ?_)
  refine Gs ?_
  refine Aj Ae Lb (k := fun r75 hr75 => ?_)
  refine Gr ?_
  refine Aw 12 rfl (fun hq22 => ?_) (fun hq22 => ?_)
  rotate_left
  ·refine Ag 4 rfl ?_
   refine Rx ?_
   refine D4 ?_
   refine Aj Ae Ii (k := fun r106 hr106 => ?_)
   refine Gs ?_
   refine Aj Ae Lb (k := fun r107 hr107 => ?_)
   refine Gr ?_
   refine Aw 12 rfl (fun hq32 => ?_) (fun hq32 => ?_)
   ·exact absurd hq32 hq22
   refine Sk ?_
   refine D5 ?_
   refine Aj Ae Ii (k := fun r108 hr108 => ?_)
   refine Gs ?_
   refine Aj Ae Lb (k := fun r109 hr109 => ?_)
   refine Gr ?_
   refine Aw 12 rfl (fun hq33 => ?_) (fun hq33 => ?_)
   ·exact absurd hq33 hq22
   refine Sk ?_
   refine D6 ?_
   refine Aj Ae Ii (k := fun r110 hr110 => ?_)
   refine Gs ?_
   refine Aj Ae Lb (k := fun r111 hr111 => ?_)
   refine Gr ?_
   refine Aw 12 rfl (fun hq34 => ?_) (fun hq34 => ?_)
   ·exact absurd hq34 hq2
   refine Sk ?_
   refine D7 ?_
   refine Aj Ae Ii (k := fun r112 hr112 => ?_)
   refine Gs ?_
   refine Aj Ae Lb (k := fun r113 hr113 => ?_)
   refine Gr ?_
   refine Aw 12 rfl (fun hq35 => ?_) (fun hq35 => ?_)
   ·exact absurd hq35 hq2
   refine Sk ?_
   refine D8 ?_
   refine Aj Ae Ii (k := fun r114 hr114 => ?_)
   refine Gs ?_
   refine Aj Ae Lb (k := fun r115 hr115 => ?_)
   refine Gr ?_
   refine Aw 12 rfl (fun hq36 => ?_) (fun hq36 => ?_)
   ·exact absurd hq36 hq2
   refine Sk ?_
   refine D9 ?_
   refine Aj Ae Ii (k := fun r116 hr116 => ?_)
   refine Gs ?_
   refine Aj Ae Lb (k := fun r117 hr117 => ?_)
   refine Gr ?_
   refine Aw 12 rfl (fun hq37 => ?_) (fun hq37 => ?_)
   ·exact absurd hq37 hq22
   refine Sk ?_
   refine E0 ?_
   refine Aj Ae Ii (k := fun r118 hr118 => ?_)
   refine Gs ?_
   refine Aj Ae Lb (k := fun r119 hr119 => ?_)
   refine Gr ?_
   refine Aw 12 rfl (fun hq38 => ?_) (fun hq38 => ?_)
   rotate_left
   ·refine Ag 4 rfl ?_
    refine Rx ?_
    refine Tw ?_
    refine iJ ?_
    refine Aj Ae Ii (k := fun r126 hr126 => ?_)
    refine Gs ?_
    refine Aj Ae Lb (k := fun r127 hr127 => ?_)
    refine Gr ?_
    refine Aw 12 rfl (fun hq40 => ?_) (fun hq40 => ?_)
    ·exact absurd hq40 hq38
    refine Sk ?_
    refine Tw ?_
    refine Ya ?_
    refine Jl ?_
    refine Gg (.inr rfl) results226 (qa (qa (qa (qa (qa (qa (qa (qa (qa (qa (qa (qa (qa (qa (qa (qa (qa (qa (qa (qa q0)))))))))))))))))))) ?_
    refine iW ?_
    refine Z5 ?_
    refine Db [rD3] (qa (qa (qa (qa (qa (qa (qa (qa (qa (qa (qa (qa (qa (qa (qa (qa (qa (qa (qa (qa (qa q0))))))))))))))))))))) results125 z1 (fun w1 hw1 => ?_)
    exact ⟨none, 0, [], (rq (((hF.neg hq2).neg hq22).neg hq38)), (hw1.fresh_out.sub Mt), (ro (((hF.neg hq2).neg hq22).neg hq38)), (by rw [(((hF.neg hq2).neg hq22).neg hq38).eq]; first | omega | (simp only [List.length_append, List.length_cons, List.length_nil]; omega) | (simp; omega) | (simp; done))⟩
   refine Zo ?_
   refine Dv (vs := [(Value.agg [(vi 9), (vt ([108, 105, 115, 116] : Ai)), (vi 1)].toArray)]) hl3 (qa (qa (qa (qa (qa (qa (qa (qa (qa (qa (qa (qa (qa (qa (qa (qa (qa (qa q0)))))))))))))))))) Dh ?_
   refine Dn ?_
   refine Aj Ae Ii (k := fun r120 hr120 => ?_)
   refine Lu ?_
   refine Aj Ae Xe (k := fun r121 hr121 => ?_)
   refine Ar ([9] : List Int) (List.nil_append _) Ev underlying24 Au Bi.nil (List.Perm.refl _) (Ch.lit (xs := ([9] : List Int)) Au) ⟨by first | omega | (simp only [List.length_append, List.length_cons, List.length_nil]; omega) | (simp; omega) | (simp; done), by first | omega | (simp only [List.length_append, List.length_cons, List.length_nil]; omega) | (simp; omega) | (simp; done)⟩ (n := 0) (m := 1) (k := fun ax22 cx22 Bx22 hox22 => ?_)
   refine Lv ?_
   refine Tw ?_
   refine iJ ?_
   refine Aj Ae Ii (k := fun r122 hr122 => ?_)
   refine Gs ?_
   refine Aj Ae Lb (k := fun r123 hr123 => ?_)
   refine Gr ?_
   refine Aw 12 rfl (fun hq39 => ?_) (fun hq39 => ?_)
   rotate_left
   ·exact absurd hq38 hq39
   refine Zo ?_
   refine C5 ?_
   refine Aj Ae Ii (k := fun r124 hr124 => ?_)
   refine Lu ?_
   refine Aj Ae Xe (k := fun r125 hr125 => ?_)
   refine Ar (([9] : List Int) ++ ([10] : List Int)) rfl Ev underlying24 Au hox22 (qb (qb (qb (qb (qb q0))))) (Ch.lit (xs := ([10] : List Int)) Au) ⟨by first | omega | (simp only [List.length_append, List.length_cons, List.length_nil]; omega) | (simp; omega) | (simp; done), by first | omega | (simp only [List.length_append, List.length_cons, List.length_nil]; omega) | (simp; omega) | (simp; done)⟩ (n := ([9] : List Int).length) (m := 1) (k := fun ax23 cx23 Bx23 hox23 => ?_)
   have hal23 : (([9] : List Int) ++ ([10] : List Int)).length = ([9] : List Int).length + 1 := by first | rfl | exact List.length_append | simp
   refine Lv ?_
   refine Tw ?_
   refine Ya ?_
   refine J6 ?_
   refine iW ?_
   refine Z5 ?_
   refine Db [rD3] (qa (qc (qa (qa (qa (qa (qa (qa (qa (qa (qa (qa (qa (qa (qa (qa (qa (qa (qa (qa (qa (qa (qa (qa (qa (qa q0)))))))))))))))))))))))))) results125 z1 (fun w1 hw1 => ?_)
   exact ⟨ax23, cx23, Bx23, (rq (((hF.neg hq2).neg hq22).pos hq38)), (Aq (L := Bx23) (hw1.perm (qb q0)) rfl.symm), (by rw [(((hF.neg hq2).neg hq22).pos hq38).eq]; exact hox23), (by rw [(((hF.neg hq2).neg hq22).pos hq38).eq]; first | omega | (simp only [List.length_append, List.length_cons, List.length_nil]; omega) | (simp; omega) | (simp; done))⟩
  refine Zo ?_
  refine Dv (vs := [(Value.agg [(vi 2), (vt ([115, 117, 115, 112, 101, 110, 100] : Ai)), (vi 2)].toArray)]) hl3 (qa (qa (qa (qa q0)))) Dh ?_
  refine Dn ?_
  refine Aj Ae Ii (k := fun r76 hr76 => ?_)
  refine Lu ?_
  refine Aj Ae Xe (k := fun r77 hr77 => ?_)
  refine Ar ([2] : List Int) (List.nil_append _) Ev underlying24 Au Bi.nil (List.Perm.refl _) (Ch.lit (xs := ([2] : List Int)) Au) ⟨by first | omega | (simp only [List.length_append, List.length_cons, List.length_nil]; omega) | (simp; omega) | (simp; done), by first | omega | (simp only [List.length_append, List.length_cons, List.length_nil]; omega) | (simp; omega) | (simp; done)⟩ (n := 0) (m := 1) (k := fun ax16 cx16 Bx16 hox16 => ?_)
  refine Lv ?_
  refine D4 ?_
  refine Aj Ae Ii (k := fun r78 hr78 => ?_)
  refine Gs ?_
  refine Aj Ae Lb (k := fun r79 hr79 => ?_)
  refine Gr ?_
  refine Aw 12 rfl (fun hq23 => ?_) (fun hq23 => ?_)
  rotate_left
  ·exact absurd hq22 hq23
  refine Zo ?_
  refine Dv (vs := [(Value.agg [(vi 3), (vt ([114, 101, 115, 117, 109, 101] : Ai)), (vi 2)].toArray)]) hl3 (qa (qa q0)) Dh ?_
  refine Dn ?_
  refine Aj Ae Ii (k := fun r80 hr80 => ?_)
  refine Lu ?_
  refine Aj Ae Xe (k := fun r81 hr81 => ?_)
  refine Ar (([2] : List Int) ++ ([3] : List Int)) rfl Ev underlying24 Au hox16 (qb (qb (qb (qb (qb q0))))) (Ch.lit (xs := ([3] : List Int)) Au) ⟨by first | omega | (simp only [List.length_append, List.length_cons, List.length_nil]; omega) | (simp; omega) | (simp; done), by first | omega | (simp only [List.length_append, List.length_cons, List.length_nil]; omega) | (simp; omega) | (simp; done)⟩ (n := ([2] : List Int).length) (m := 1) (k := fun ax17 cx17 Bx17 hox17 => ?_)
  have hal17 : (([2] : List Int) ++ ([3] : List Int)).length = ([2] : List Int).length + 1 := by first | rfl | exact List.length_append | simp
  refine Lv ?_
  refine D5 ?_
  refine Aj Ae Ii (k := fun r82 hr82 => ?_)
  refine Gs ?_
  refine Aj Ae Lb (k := fun r83 hr83 => ?_)
  refine Gr ?_
  refine Aw 12 rfl (fun hq24 => ?_) (fun hq24 => ?_)
  rotate_left
  ·exact absurd hq22 hq24
  refine Zo ?_
  refine Dv (vs := [(Value.agg [(vi 4), (vt ([100, 114, 97, 105, 110] : Ai)), (vi 2)].toArray)]) hl3 (qa (qa q0)) Dh ?_
  refine Dn ?_
  refine Aj Ae Ii (k := fun r84 hr84 => ?_)
  refine Lu ?_
  refine Aj Ae Xe (k := fun r85 hr85 => ?_)
  refine Ar ((([2] : List Int) ++ ([3] : List Int)) ++ ([4] : List Int)) rfl Ev underlying24 Au hox17 (qb (qb (qb (qb (qb q0))))) (Ch.lit (xs := ([4] : List Int)) Au) ⟨by first | omega | (simp only [List.length_append, List.length_cons, List.length_nil]; omega) | (simp; omega) | (simp; done), by first | omega | (simp only [List.length_append, List.length_cons, List.length_nil]; omega) | (simp; omega) | (simp; done)⟩ (n := (([2] : List Int) ++ ([3] : List Int)).length) (m := 1) (k := fun ax18 cx18 Bx18 hox18 => ?_)
  have hal18 : ((([2] : List Int) ++ ([3] : List Int)) ++ ([4] : List Int)).length = (([2] : List Int) ++ ([3] : List Int)).length + 1 := by first | rfl | exact List.length_append | simp
  refine Lv ?_
  refine D6 ?_
  refine Aj Ae Ii (k := fun r86 hr86 => ?_)
  refine Gs ?_
  refine Aj Ae Lb (k := fun r87 hr87 => ?_)
  refine Gr ?_
  refine Aw 12 rfl (fun hq25 => ?_) (fun hq25 => ?_)
  ·exact absurd hq25 hq2
  refine Sk ?_
  refine D7 ?_
  refine Aj Ae Ii (k := fun r88 hr88 => ?_)
  refine Gs ?_
  refine Aj Ae Lb (k := fun r89 hr89 => ?_)
  refine Gr ?_
  refine Aw 12 rfl (fun hq26 => ?_) (fun hq26 => ?_)
  ·exact absurd hq26 hq2
  refine Sk ?_
  refine D8 ?_
  refine Aj Ae Ii (k := fun r90 hr90 => ?_)
  refine Gs ?_
  refine Aj Ae Lb (k := fun r91 hr91 => ?_)
  refine Gr ?_
  refine Aw 12 rfl (fun hq27 => ?_) (fun hq27 => ?_)
  ·exact absurd hq27 hq2
  refine Sk ?_
  refine D9 ?_
  refine Aj Ae Ii (k := fun r92 hr92 => ?_)
  refine Gs ?_
  refine Aj Ae Lb (k := fun r93 hr93 => ?_)
  refine Gr ?_
  refine Aw 12 rfl (fun hq28 => ?_) (fun hq28 => ?_)
  rotate_left
  ·exact absurd hq22 hq28
  refine Zo ?_
  refine Dv (vs := [(Value.agg [(vi 8), (vt ([107, 105, 108, 108] : Ai)), (vi 2)].toArray)]) hl3 (qa (qa (qa (qa (qa (qa (qa (qa q0)))))))) Dh ?_
  refine Dn ?_
  refine Aj Ae Ii (k := fun r94 hr94 => ?_)
  refine Lu ?_
  refine Aj Ae Xe (k := fun r95 hr95 => ?_)
  refine Ar (((([2] : List Int) ++ ([3] : List Int)) ++ ([4] : List Int)) ++ ([8] : List Int)) rfl Ev underlying24 Au hox18 (qb (qb (qb (qb (qb (qb (qb (qb (qb (qb (qb q0))))))))))) (Ch.lit (xs := ([8] : List Int)) Au) ⟨by first | omega | (simp only [List.length_append, List.length_cons, List.length_nil]; omega) | (simp; omega) | (simp; done), by first | omega | (simp only [List.length_append, List.length_cons, List.length_nil]; omega) | (simp; omega) | (simp; done)⟩ (n := ((([2] : List Int) ++ ([3] : List Int)) ++ ([4] : List Int)).length) (m := 1) (k := fun ax19 cx19 Bx19 hox19 => ?_)
  have hal19 : (((([2] : List Int) ++ ([3] : List Int)) ++ ([4] : List Int)) ++ ([8] : List Int)).length = ((([2] : List Int) ++ ([3] : List Int)) ++ ([4] : List Int)).length + 1 := by first | rfl | exact List.length_append | simp
  refine Lv ?_
  refine E0 ?_
  refine Aj Ae Ii (k := fun r96 hr96 => ?_)
  refine Gs ?_
  refine Aj Ae Lb (k := fun r97 hr97 => ?_)
  refine Gr ?_
  refine Aw 12 rfl (fun hq29 => ?_) (fun hq29 => ?_)
  rotate_left
  ·refine Ag 4 rfl ?_
   refine Rx ?_
   refine Tw ?_
   refine iJ ?_
   refine Aj Ae Ii (k := fun r104 hr104 => ?_)
   refine Gs ?_
   refine Aj Ae Lb (k := fun r105 hr105 => ?_)
   refine Gr ?_
   refine Aw 12 rfl (fun hq31 => ?_) (fun hq31 => ?_)
   ·exact absurd hq31 hq29
   refine Sk ?_
   refine Tw ?_
   refine Ya ?_
   refine Jl ?_
   refine Gg (.inr rfl) results226 (qa (qa (qa (qa q0)))) ?_
   refine iW ?_
   refine Z5 ?_
   refine Db [rD3] (qa (qa (qa (qa (qa (qc (qa (qa (qa (qa (qa (qa (qa (qa (qa (qa (qa (qa (qa (qa (qa (qa (qa (qa (qa (qa (qa (qa (qa (qa q0)))))))))))))))))))))))))))))) results125 z1 (fun w1 hw1 => ?_)
   exact ⟨ax19, cx19, Bx19, (rq (((hF.neg hq2).pos hq22).neg hq29)), (Aq (L := Bx19) (hw1.perm (qb (qb (qb (qb (qb q0)))))) rfl.symm), (by rw [(((hF.neg hq2).pos hq22).neg hq29).eq]; exact hox19), (by rw [(((hF.neg hq2).pos hq22).neg hq29).eq]; first | omega | (simp only [List.length_append, List.length_cons, List.length_nil]; omega) | (simp; omega) | (simp; done))⟩
  refine Zo ?_
  refine Dv (vs := [(Value.agg [(vi 9), (vt ([108, 105, 115, 116] : Ai)), (vi 1)].toArray)]) hl3 (qa (qa q0)) Dh ?_
  refine Dn ?_
  refine Aj Ae Ii (k := fun r98 hr98 => ?_)
  refine Lu ?_
  refine Aj Ae Xe (k := fun r99 hr99 => ?_)
  refine Ar ((((([2] : List Int) ++ ([3] : List Int)) ++ ([4] : List Int)) ++ ([8] : List Int)) ++ ([9] : List Int)) rfl Ev underlying24 Au hox19 (qb (qb (qb (qb (qb q0))))) (Ch.lit (xs := ([9] : List Int)) Au) ⟨by first | omega | (simp only [List.length_append, List.length_cons, List.length_nil]; omega) | (simp; omega) | (simp; done), by first | omega | (simp only [List.length_append, List.length_cons, List.length_nil]; omega) | (simp; omega) | (simp; done)⟩ (n := (((([2] : List Int) ++ ([3] : List Int)) ++ ([4] : List Int)) ++ ([8] : List Int)).length) (m := 1) (k := fun ax20 cx20 Bx20 hox20 => ?_)
  have hal20 : ((((([2] : List Int) ++ ([3] : List Int)) ++ ([4] : List Int)) ++ ([8] : List Int)) ++ ([9] : List Int)).length = (((([2] : List Int) ++ ([3] : List Int)) ++ ([4] : List Int)) ++ ([8] : List Int)).length + 1 := by first | rfl | exact List.length_append | simp
  refine Lv ?_
  refine Tw ?_
  refine iJ ?_
  refine Aj Ae Ii (k := fun r100 hr100 => ?_)
  refine Gs ?_
  refine Aj Ae Lb (k := fun r101 hr101 => ?_)
  refine Gr ?_
  refine Aw 12 rfl (fun hq30 => ?_) (fun hq30 => ?_)
  rotate_left
  ·exact absurd hq29 hq30
  refine Zo ?_
  refine C5 ?_
  refine Aj Ae Ii (k := fun r102 hr102 => ?_)
  refine Lu ?_
  refine Aj Ae Xe (k := fun r103 hr103 => ?_)
  refine Ar (((((([2] : List Int) ++ ([3] : List Int)) ++ ([4] : List Int)) ++ ([8] : List Int)) ++ ([9] : List Int)) ++ ([10] : List Int)) rfl Ev underlying24 Au hox20 (qb (qb (qb (qb (qb q0))))) (Ch.lit (xs := ([10] : List Int)) Au) ⟨by first | omega | (simp only [List.length_append, List.length_cons, List.length_nil]; omega) | (simp; omega) | (simp; done), by first | omega | (simp only [List.length_append, List.length_cons, List.length_nil]; omega) | (simp; omega) | (simp; done)⟩ (n := ((((([2] : List Int) ++ ([3] : List Int)) ++ ([4] : List Int)) ++ ([8] : List Int)) ++ ([9] : List Int)).length) (m := 1) (k := fun ax21 cx21 Bx21 hox21 => ?_)
  have hal21 : (((((([2] : List Int) ++ ([3] : List Int)) ++ ([4] : List Int)) ++ ([8] : List Int)) ++ ([9] : List Int)) ++ ([10] : List Int)).length = ((((([2] : List Int) ++ ([3] : List Int)) ++ ([4] : List Int)) ++ ([8] : List Int)) ++ ([9] : List Int)).length + 1 := by first | rfl | exact List.length_append | simp
  refine Lv ?_
  refine Tw ?_
  refine Ya ?_
  refine J6 ?_
  refine iW ?_
  refine Z5 ?_
  refine Db [rD3] (qa (qc (qa (qa (qa (qa (qa (qa (qa (qa (qa (qa (qa (qa (qa (qa (qa (qa (qa (qa (qa (qa (qa (qa (qa (qa (qa (qa (qa (qa (qa (qa (qa (qa q0)))))))))))))))))))))))))))))))))) results125 z1 (fun w1 hw1 => ?_)
  exact ⟨ax21, cx21, Bx21, (rq (((hF.neg hq2).pos hq22).pos hq29)), (Aq (L := Bx21) (hw1.perm (qb q0)) rfl.symm), (by rw [(((hF.neg hq2).pos hq22).pos hq29).eq]; exact hox21), (by rw [(((hF.neg hq2).pos hq22).pos hq29).eq]; first | omega | (simp only [List.length_append, List.length_cons, List.length_nil]; omega) | (simp; omega) | (simp; done))⟩
 refine Zo ?_
 refine Dv (vs := [(Value.agg [(vi 1), (vt ([99, 114, 101, 97, 116, 101] : Ai)), (vi 4)].toArray)]) hl3 (qa (qa q0)) Dh ?_
 refine Dn ?_
 refine Aj Ae Ii (k := fun r6 hr6 => ?_)
 refine Lu ?_
 refine Aj Ae Xe (k := fun r7 hr7 => ?_)
 refine Ar ([1] : List Int) (List.nil_append _) Ev underlying24 Au Bi.nil (List.Perm.refl _) (Ch.lit (xs := ([1] : List Int)) Au) ⟨by first | omega | (simp only [List.length_append, List.length_cons, List.length_nil]; omega) | (simp; omega) | (simp; done), by first | omega | (simp only [List.length_append, List.length_cons, List.length_nil]; omega) | (simp; omega) | (simp; done)⟩ (n := 0) (m := 1) (k := fun ax1 cx1 Bx1 hox1 => ?_)
 refine Lv ?_
 refine cL ?_
 refine Ad (Jb (m := 1) (n := 3) runUnderlying358 sizeOf288 isAgg288) (k := ?_)
 refine Aj Ae Ii (k := fun r8 hr8 => ?_)
 refine Gs ?_
 refine Aj Ae Lb (k := fun r9 hr9 => ?_)
 refine Gr ?_
 refine Aw 12 rfl (fun hq3 => ?_) (fun hq3 => ?_)
 rotate_left
 ·refine Ag 4 rfl ?_
  refine Rx ?_
  refine D4 ?_
  refine Aj Ae Ii (k := fun r46 hr46 => ?_)
  refine Gs ?_
  refine Aj Ae Lb (k := fun r47 hr47 => ?_)
  refine Gr ?_
  refine Aw 12 rfl (fun hq13 => ?_) (fun hq13 => ?_)
  ·exact absurd hq13 hq3
  refine Sk ?_
  refine D5 ?_
  refine Aj Ae Ii (k := fun r48 hr48 => ?_)
  refine Gs ?_
  refine Aj Ae Lb (k := fun r49 hr49 => ?_)
  refine Gr ?_
  refine Aw 12 rfl (fun hq14 => ?_) (fun hq14 => ?_)
  ·exact absurd hq14 hq3
  refine Sk ?_
  refine D6 ?_
  refine Aj Ae Ii (k := fun r50 hr50 => ?_)
  refine Gs ?_
  refine Aj Ae Lb (k := fun r51 hr51 => ?_)
  refine Gr ?_
  refine Aw 12 rfl (fun hq15 => ?_) (fun hq15 => ?_)
  rotate_left
  ·exact absurd hq2 hq15
  refine Zo ?_
  refine Dv (vs := [(Value.agg [(vi 5), (vt ([100, 101, 108, 101, 116, 101] : Ai)), (vi 4)].toArray)]) hl3 (qa (qa (qa (qa (qa (qa (qa (qa q0)))))))) Dh ?_
  refine Dn ?_
  refine Aj Ae Ii (k := fun r52 hr52 => ?_)
  refine Lu ?_
  refine Aj Ae Xe (k := fun r53 hr53 => ?_)
  refine Ar (([1] : List Int) ++ ([5] : List Int)) rfl Ev underlying24 Au hox1 (qb (qb (qb (qb (qb (qb (qb (qb (qb (qb (qb q0))))))))))) (Ch.lit (xs := ([5] : List Int)) Au) ⟨by first | omega | (simp only [List.length_append, List.length_cons, List.length_nil]; omega) | (simp; omega) | (simp; done), by first | omega | (simp only [List.length_append, List.length_cons, List.length_nil]; omega) | (simp; omega) | (simp; done)⟩ (n := ([1] : List Int).length) (m := 1) (k := fun ax11 cx11 Bx11 hox11 => ?_)
  have hal11 : (([1] : List Int) ++ ([5] : List Int)).length = ([1] : List Int).length + 1 := by first | rfl | exact List.length_append | simp
  refine Lv ?_
  refine D7 ?_
  refine Aj Ae Ii (k := fun r54 hr54 => ?_)
  refine Gs ?_
  refine Aj Ae Lb (k := fun r55 hr55 => ?_)
  refine Gr ?_
  refine Aw 12 rfl (fun hq16 => ?_) (fun hq16 => ?_)
  rotate_left
  ·exact absurd hq2 hq16
  refine Zo ?_
  refine Dv (vs := [(Value.agg [(vi 6), (vt ([114, 111, 116, 97, 116, 101] : Ai)), (vi 4)].toArray)]) hl3 (qa (qa q0)) Dh ?_
  refine Dn ?_
  refine Aj Ae Ii (k := fun r56 hr56 => ?_)
  refine Lu ?_
  refine Aj Ae Xe (k := fun r57 hr57 => ?_)
  refine Ar ((([1] : List Int) ++ ([5] : List Int)) ++ ([6] : List Int)) rfl Ev underlying24 Au hox11 (qb (qb (qb (qb (qb q0))))) (Ch.lit (xs := ([6] : List Int)) Au) ⟨by first | omega | (simp only [List.length_append, List.length_cons, List.length_nil]; omega) | (simp; omega) | (simp; done), by first | omega | (simp only [List.length_append, List.length_cons, List.length_nil]; omega) | (simp; omega) | (simp; done)⟩ (n := (([1] : List Int) ++ ([5] : List Int)).length) (m := 1) (k := fun ax12 cx12 Bx12 hox12 => ?_)
  have hal12 : ((([1] : List Int) ++ ([5] : List Int)) ++ ([6] : List Int)).length = (([1] : List Int) ++ ([5] : List Int)).length + 1 := by first | rfl | exact List.length_append | simp
  refine Lv ?_
  refine D8 ?_
  refine Aj Ae Ii (k := fun r58 hr58 => ?_)
  refine Gs ?_
  refine Aj Ae Lb (k := fun r59 hr59 => ?_)
  refine Gr ?_
  refine Aw 12 rfl (fun hq17 => ?_) (fun hq17 => ?_)
  rotate_left
  ·exact absurd hq2 hq17
  refine Zo ?_
  refine Dv (vs := [(Value.agg [(vi 7), (vt ([97, 99, 108] : Ai)), (vi 4)].toArray)]) hl3 (qa (qa q0)) Dh ?_
  refine Dn ?_
  refine Aj Ae Ii (k := fun r60 hr60 => ?_)
  refine Lu ?_
  refine Aj Ae Xe (k := fun r61 hr61 => ?_)
  refine Ar (((([1] : List Int) ++ ([5] : List Int)) ++ ([6] : List Int)) ++ ([7] : List Int)) rfl Ev underlying24 Au hox12 (qb (qb (qb (qb (qb q0))))) (Ch.lit (xs := ([7] : List Int)) Au) ⟨by first | omega | (simp only [List.length_append, List.length_cons, List.length_nil]; omega) | (simp; omega) | (simp; done), by first | omega | (simp only [List.length_append, List.length_cons, List.length_nil]; omega) | (simp; omega) | (simp; done)⟩ (n := ((([1] : List Int) ++ ([5] : List Int)) ++ ([6] : List Int)).length) (m := 1) (k := fun ax13 cx13 Bx13 hox13 => ?_)
  have hal13 : (((([1] : List Int) ++ ([5] : List Int)) ++ ([6] : List Int)) ++ ([7] : List Int)).length = ((([1] : List Int) ++ ([5] : List Int)) ++ ([6] : List Int)).length + 1 := by first | rfl | exact List.length_append | simp
  refine Lv ?_
  refine D9 ?_
  refine Aj Ae Ii (k := fun r62 hr62 => ?_)
  refine Gs ?_
  refine Aj Ae Lb (k := fun r63 hr63 => ?_)
  refine Gr ?_
  refine Aw 12 rfl (fun hq18 => ?_) (fun hq18 => ?_)
  ·exact absurd hq18 hq3
  refine Sk ?_
  refine E0 ?_
  refine Aj Ae Ii (k := fun r64 hr64 => ?_)
  refine Gs ?_
  refine Aj Ae Lb (k := fun r65 hr65 => ?_)
  refine Gr ?_
  refine Aw 12 rfl (fun hq19 => ?_) (fun hq19 => ?_)
  rotate_left
  ·refine Ag 4 rfl ?_
   refine Rx ?_
   refine Tw ?_
   refine iJ ?_
   refine Aj Ae Ii (k := fun r72 hr72 => ?_)
   refine Gs ?_
   refine Aj Ae Lb (k := fun r73 hr73 => ?_)
   refine Gr ?_
   refine Aw 12 rfl (fun hq21 => ?_) (fun hq21 => ?_)
   ·exact absurd hq21 hq19
   refine Sk ?_
   refine Tw ?_
   refine Ya ?_
   refine Jl ?_
   refine Gg (.inr rfl) results226 (qa (qa (qa (qa (qa (qa q0)))))) ?_
   refine iW ?_
   refine Z5 ?_
   refine Db [rD3] (qa (qa (qa (qa (qa (qa (qa (qc (qa (qa (qa (qa (qa (qa (qa (qa (qa (qa (qa (qa (qa (qa (qa (qa (qa (qa (qa (qa (qa (qa q0)))))))))))))))))))))))))))))) results125 z1 (fun w1 hw1 => ?_)
   exact ⟨ax13, cx13, Bx13, (rq (((hF.pos hq2).neg hq3).neg hq19)), (Aq (L := Bx13) (hw1.perm (qb (qb (qb (qb (qb (qb (qb q0)))))))) rfl.symm), (by rw [(((hF.pos hq2).neg hq3).neg hq19).eq]; exact hox13), (by rw [(((hF.pos hq2).neg hq3).neg hq19).eq]; first | omega | (simp only [List.length_append, List.length_cons, List.length_nil]; omega) | (simp; omega) | (simp; done))⟩
  refine Zo ?_
  refine Dv (vs := [(Value.agg [(vi 9), (vt ([108, 105, 115, 116] : Ai)), (vi 1)].toArray)]) hl3 (qa (qa (qa (qa q0)))) Dh ?_
  refine Dn ?_
  refine Aj Ae Ii (k := fun r66 hr66 => ?_)
  refine Lu ?_
  refine Aj Ae Xe (k := fun r67 hr67 => ?_)
  refine Ar ((((([1] : List Int) ++ ([5] : List Int)) ++ ([6] : List Int)) ++ ([7] : List Int)) ++ ([9] : List Int)) rfl Ev underlying24 Au hox13 (qb (qb (qb (qb (qb (qb (qb q0))))))) (Ch.lit (xs := ([9] : List Int)) Au) ⟨by first | omega | (simp only [List.length_append, List.length_cons, List.length_nil]; omega) | (simp; omega) | (simp; done), by first | omega | (simp only [List.length_append, List.length_cons, List.length_nil]; omega) | (simp; omega) | (simp; done)⟩ (n := (((([1] : List Int) ++ ([5] : List Int)) ++ ([6] : List Int)) ++ ([7] : List Int)).length) (m := 1) (k := fun ax14 cx14 Bx14 hox14 => ?_)
  have hal14 : ((((([1] : List Int) ++ ([5] : List Int)) ++ ([6] : List Int)) ++ ([7] : List Int)) ++ ([9] : List Int)).length = (((([1] : List Int) ++ ([5] : List Int)) ++ ([6] : List Int)) ++ ([7] : List Int)).length + 1 := by first | rfl | exact List.length_append | simp
  refine Lv ?_
  refine Tw ?_
  refine iJ ?_
  refine Aj Ae Ii (k := fun r68 hr68 => ?_)
  refine Gs ?_
  refine Aj Ae Lb (k := fun r69 hr69 => ?_)
  refine Gr ?_
  refine Aw 12 rfl (fun hq20 => ?_) (fun hq20 => ?_)
  rotate_left
  ·exact absurd hq19 hq20
  refine Zo ?_
  refine C5 ?_
  refine Aj Ae Ii (k := fun r70 hr70 => ?_)
  refine Lu ?_
  refine Aj Ae Xe (k := fun r71 hr71 => ?_)
  refine Ar (((((([1] : List Int) ++ ([5] : List Int)) ++ ([6] : List Int)) ++ ([7] : List Int)) ++ ([9] : List Int)) ++ ([10] : List Int)) rfl Ev underlying24 Au hox14 (qb (qb (qb (qb (qb q0))))) (Ch.lit (xs := ([10] : List Int)) Au) ⟨by first | omega | (simp only [List.length_append, List.length_cons, List.length_nil]; omega) | (simp; omega) | (simp; done), by first | omega | (simp only [List.length_append, List.length_cons, List.length_nil]; omega) | (simp; omega) | (simp; done)⟩ (n := ((((([1] : List Int) ++ ([5] : List Int)) ++ ([6] : List Int)) ++ ([7] : List Int)) ++ ([9] : List Int)).length) (m := 1) (k := fun ax15 cx15 Bx15 hox15 => ?_)
  have hal15 : (((((([1] : List Int) ++ ([5] : List Int)) ++ ([6] : List Int)) ++ ([7] : List Int)) ++ ([9] : List Int)) ++ ([10] : List Int)).length = ((((([1] : List Int) ++ ([5] : List Int)) ++ ([6] : List Int)) ++ ([7] : List Int)) ++ ([9] : List Int)).length + 1 := by first | rfl | exact List.length_append | simp
  refine Lv ?_
  refine Tw ?_
  refine Ya ?_
  refine J6 ?_
  refine iW ?_
  refine Z5 ?_
  refine Db [rD3] (qa (qc (qa (qa (qa (qa (qa (qa (qa (qa (qa (qa (qa (qa (qa (qa (qa (qa (qa (qa (qa (qa (qa (qa (qa (qa (qa (qa (qa (qa (qa (qa (qa (qa q0)))))))))))))))))))))))))))))))))) results125 z1 (fun w1 hw1 => ?_)
  exact ⟨ax15, cx15, Bx15, (rq (((hF.pos hq2).neg hq3).pos hq19)), (Aq (L := Bx15) (hw1.perm (qb q0)) rfl.symm), (by rw [(((hF.pos hq2).neg hq3).pos hq19).eq]; exact hox15), (by rw [(((hF.pos hq2).neg hq3).pos hq19).eq]; first | omega | (simp only [List.length_append, List.length_cons, List.length_nil]; omega) | (simp; omega) | (simp; done))⟩
 refine Zo ?_
 refine Dv (vs := [(Value.agg [(vi 2), (vt ([115, 117, 115, 112, 101, 110, 100] : Ai)), (vi 2)].toArray)]) hl3 (qa (qa q0)) Dh ?_
 refine Dn ?_
 refine Aj Ae Ii (k := fun r10 hr10 => ?_)
 refine Lu ?_
 refine Aj Ae Xe (k := fun r11 hr11 => ?_)
 refine Ar (([1] : List Int) ++ ([2] : List Int)) rfl Ev underlying24 Au hox1 (qb (qb (qb (qb (qb q0))))) (Ch.lit (xs := ([2] : List Int)) Au) ⟨by first | omega | (simp only [List.length_append, List.length_cons, List.length_nil]; omega) | (simp; omega) | (simp; done), by first | omega | (simp only [List.length_append, List.length_cons, List.length_nil]; omega) | (simp; omega) | (simp; done)⟩ (n := ([1] : List Int).length) (m := 1) (k := fun ax2 cx2 Bx2 hox2 => ?_)
 have hal2 : (([1] : List Int) ++ ([2] : List Int)).length = ([1] : List Int).length + 1 := by first | rfl | exact List.length_append | simp
 refine Lv ?_
 refine D4 ?_
 refine Aj Ae Ii (k := fun r12 hr12 => ?_)
 refine Gs ?_
 refine Aj Ae Lb (k := fun r13 hr13 => ?_)
 refine Gr ?_
 refine Aw 12 rfl (fun hq4 => ?_) (fun hq4 => ?_)
 rotate_left
 ·exact absurd hq3 hq4
 refine Zo ?_
 refine Dv (vs := [(Value.agg [(vi 3), (vt ([114, 101, 115, 117, 109, 101] : Ai)), (vi 2)].toArray)]) hl3 (qa (qa q0)) Dh ?_
 refine Dn ?_
 refine Aj Ae Ii (k := fun r14 hr14 => ?_)
 refine Lu ?_
 refine Aj Ae Xe (k := fun r15 hr15 => ?_)
 refine Ar ((([1] : List Int) ++ ([2] : List Int)) ++ ([3] : List Int)) rfl Ev underlying24 Au hox2 (qb (qb (qb (qb (qb q0))))) (Ch.lit (xs := ([3] : List Int)) Au) ⟨by first | omega | (simp only [List.length_append, List.length_cons, List.length_nil]; omega) | (simp; omega) | (simp; done), by first | omega | (simp only [List.length_append, List.length_cons, List.length_nil]; omega) | (simp; omega) | (simp; done)⟩ (n := (([1] : List Int) ++ ([2] : List Int)).length) (m := 1) (k := fun ax3 cx3 Bx3 hox3 => ?_)
 have hal3 : ((([1] : List Int) ++ ([2] : List Int)) ++ ([3] : List Int)).length = (([1] : List Int) ++ ([2] : List Int)).length + 1 := by first | rfl | exact List.length_append | simp
 refine Lv ?_
 refine D5 ?_
 refine Aj Ae Ii (k := fun r16 hr16 => ?_)
 refine Gs ?_
 refine Aj Ae Lb (k := fun r17 hr17 => ?_)
 refine Gr ?_
 refine Aw 12 rfl (fun hq5 => ?_) (fun hq5 => ?_)
 rotate_left
 ·exact absurd hq3 hq5
 refine Zo ?_
 refine Dv (vs := [(Value.agg [(vi 4), (vt ([100, 114, 97, 105, 110] : Ai)), (vi 2)].toArray)]) hl3 (qa (qa q0)) Dh ?_
 refine Dn ?_
 refine Aj Ae Ii (k := fun r18 hr18 => ?_)
 refine Lu ?_
 refine Aj Ae Xe (k := fun r19 hr19 => ?_)
 refine Ar (((([1] : List Int) ++ ([2] : List Int)) ++ ([3] : List Int)) ++ ([4] : List Int)) rfl Ev underlying24 Au hox3 (qb (qb (qb (qb (qb q0))))) (Ch.lit (xs := ([4] : List Int)) Au) ⟨by first | omega | (simp only [List.length_append, List.length_cons, List.length_nil]; omega) | (simp; omega) | (simp; done), by first | omega | (simp only [List.length_append, List.length_cons, List.length_nil]; omega) | (simp; omega) | (simp; done)⟩ (n := ((([1] : List Int) ++ ([2] : List Int)) ++ ([3] : List Int)).length) (m := 1) (k := fun ax4 cx4 Bx4 hox4 => ?_)
 have hal4 : (((([1] : List Int) ++ ([2] : List Int)) ++ ([3] : List Int)) ++ ([4] : List Int)).length = ((([1] : List Int) ++ ([2] : List Int)) ++ ([3] : List Int)).length + 1 := by first | rfl | exact List.length_append | simp
 refine Lv ?_
 refine D6 ?_
 refine Aj Ae Ii (k := fun r20 hr20 => ?_)
 refine Gs ?_
 refine Aj Ae Lb (k := fun r21 hr21 => ?_)
 refine Gr ?_
 refine Aw 12 rfl (fun hq6 => ?_) (fun hq6 => ?_)
 rotate_left
 ·exact absurd hq2 hq6
 refine Zo ?_
 refine Dv (vs := [(Value.agg [(vi 5), (vt ([100, 101, 108, 101, 116, 101] : Ai)), (vi 4)].toArray)]) hl3 (qa (qa q0)) Dh ?_
 refine Dn ?_
 refine Aj Ae Ii (k := fun r22 hr22 => ?_)
 refine Lu ?_
 refine Aj Ae Xe (k := fun r23 hr23 => ?_)
 refine Ar ((((([1] : List Int) ++ ([2] : List Int)) ++ ([3] : List Int)) ++ ([4] : List Int)) ++ ([5] : List Int)) rfl Ev underlying24 Au hox4 (qb (qb (qb (qb (qb q0))))) (Ch.lit (xs := ([5] : List Int)) Au) ⟨by first | omega | (simp only [List.length_append, List.length_cons, List.length_nil]; omega) | (simp; omega) | (simp; done), by first | omega | (simp only [List.length_append, List.length_cons, List.length_nil]; omega) | (simp; omega) | (simp; done)⟩ (n := (((([1] : List Int) ++ ([2] : List Int)) ++ ([3] : List Int)) ++ ([4] : List Int)).length) (m := 1) (k := fun ax5 cx5 Bx5 hox5 => ?_)
 have hal5 : ((((([1] : List Int) ++ ([2] : List Int)) ++ ([3] : List Int)) ++ ([4] : List Int)) ++ ([5] : List Int)).length = (((([1] : List Int) ++ ([2] : List Int)) ++ ([3] : List Int)) ++ ([4] : List Int)).length + 1 := by first | rfl | exact List.length_append | simp
 refine Lv ?_
 refine D7 ?_
 refine Aj Ae Ii (k := fun r24 hr24 => ?_)
 refine Gs ?_
 refine Aj Ae Lb (k := fun r25 hr25 => ?_)
 refine Gr ?_
 refine Aw 12 rfl (fun hq7 => ?_) (fun hq7 => ?_)
 rotate_left
 ·exact absurd hq2 hq7
 refine Zo ?_
 refine Dv (vs := [(Value.agg [(vi 6), (vt ([114, 111, 116, 97, 116, 101] : Ai)), (vi 4)].toArray)]) hl3 (qa (qa q0)) Dh ?_
 refine Dn ?_
 refine Aj Ae Ii (k := fun r26 hr26 => ?_)
 refine Lu ?_
 refine Aj Ae Xe (k := fun r27 hr27 => ?_)
 refine Ar (((((([1] : List Int) ++ ([2] : List Int)) ++ ([3] : List Int)) ++ ([4] : List Int)) ++ ([5] : List Int)) ++ ([6] : List Int)) rfl Ev underlying24 Au hox5 (qb (qb (qb (qb (qb q0))))) (Ch.lit (xs := ([6] : List Int)) Au) ⟨by first | omega | (simp only [List.length_append, List.length_cons, List.length_nil]; omega) | (simp; omega) | (simp; done), by first | omega | (simp only [List.length_append, List.length_cons, List.length_nil]; omega) | (simp; omega) | (simp; done)⟩ (n := ((((([1] : List Int) ++ ([2] : List Int)) ++ ([3] : List Int)) ++ ([4] : List Int)) ++ ([5] : List Int)).length) (m := 1) (k := fun ax6 cx6 Bx6 hox6 => ?_)
 have hal6 : (((((([1] : List Int) ++ ([2] : List Int)) ++ ([3] : List Int)) ++ ([4] : List Int)) ++ ([5] : List Int)) ++ ([6] : List Int)).length = ((((([1] : List Int) ++ ([2] : List Int)) ++ ([3] : List Int)) ++ ([4] : List Int)) ++ ([5] : List Int)).length + 1 := by first | rfl | exact List.length_append | simp
 refine Lv ?_
 refine D8 ?_
 refine Aj Ae Ii (k := fun r28 hr28 => ?_)
 refine Gs ?_
 refine Aj Ae Lb (k := fun r29 hr29 => ?_)
 refine Gr ?_
 refine Aw 12 rfl (fun hq8 => ?_) (fun hq8 => ?_)
 rotate_left
 ·exact absurd hq2 hq8
 refine Zo ?_
 refine Dv (vs := [(Value.agg [(vi 7), (vt ([97, 99, 108] : Ai)), (vi 4)].toArray)]) hl3 (qa (qa q0)) Dh ?_
 refine Dn ?_
 refine Aj Ae Ii (k := fun r30 hr30 => ?_)
 refine Lu ?_
 refine Aj Ae Xe (k := fun r31 hr31 => ?_)
 refine Ar ((((((([1] : List Int) ++ ([2] : List Int)) ++ ([3] : List Int)) ++ ([4] : List Int)) ++ ([5] : List Int)) ++ ([6] : List Int)) ++ ([7] : List Int)) rfl Ev underlying24 Au hox6 (qb (qb (qb (qb (qb q0))))) (Ch.lit (xs := ([7] : List Int)) Au) ⟨by first | omega | (simp only [List.length_append, List.length_cons, List.length_nil]; omega) | (simp; omega) | (simp; done), by first | omega | (simp only [List.length_append, List.length_cons, List.length_nil]; omega) | (simp; omega) | (simp; done)⟩ (n := (((((([1] : List Int) ++ ([2] : List Int)) ++ ([3] : List Int)) ++ ([4] : List Int)) ++ ([5] : List Int)) ++ ([6] : List Int)).length) (m := 1) (k := fun ax7 cx7 Bx7 hox7 => ?_)
 have hal7 : ((((((([1] : List Int) ++ ([2] : List Int)) ++ ([3] : List Int)) ++ ([4] : List Int)) ++ ([5] : List Int)) ++ ([6] : List Int)) ++ ([7] : List Int)).length = (((((([1] : List Int) ++ ([2] : List Int)) ++ ([3] : List Int)) ++ ([4] : List Int)) ++ ([5] : List Int)) ++ ([6] : List Int)).length + 1 := by first | rfl | exact List.length_append | simp
 refine Lv ?_
 refine D9 ?_
 refine Aj Ae Ii (k := fun r32 hr32 => ?_)
 refine Gs ?_
 refine Aj Ae Lb (k := fun r33 hr33 => ?_)
 refine Gr ?_
 refine Aw 12 rfl (fun hq9 => ?_) (fun hq9 => ?_)
 rotate_left
 ·exact absurd hq3 hq9
 refine Zo ?_
 refine Dv (vs := [(Value.agg [(vi 8), (vt ([107, 105, 108, 108] : Ai)), (vi 2)].toArray)]) hl3 (qa (qa q0)) Dh ?_
 refine Dn ?_
 refine Aj Ae Ii (k := fun r34 hr34 => ?_)
 refine Lu ?_
 refine Aj Ae Xe (k := fun r35 hr35 => ?_)
 refine Ar (((((((([1] : List Int) ++ ([2] : List Int)) ++ ([3] : List Int)) ++ ([4] : List Int)) ++ ([5] : List Int)) ++ ([6] : List Int)) ++ ([7] : List Int)) ++ ([8] : List Int)) rfl Ev underlying24 Au hox7 (qb (qb (qb (qb (qb q0))))) (Ch.lit (xs := ([8] : List Int)) Au) ⟨by first | omega | (simp only [List.length_append, List.length_cons, List.length_nil]; omega) | (simp; omega) | (simp; done), by first | omega | (simp only [List.length_append, List.length_cons, List.length_nil]; omega) | (simp; omega) | (simp; done)⟩ (n := ((((((([1] : List Int) ++ ([2] : List Int)) ++ ([3] : List Int)) ++ ([4] : List Int)) ++ ([5] : List Int)) ++ ([6] : List Int)) ++ ([7] : List Int)).length) (m := 1) (k := fun ax8 cx8 Bx8 hox8 => ?_)
 have hal8 : (((((((([1] : List Int) ++ ([2] : List Int)) ++ ([3] : List Int)) ++ ([4] : List Int)) ++ ([5] : List Int)) ++ ([6] : List Int)) ++ ([7] : List Int)) ++ ([8] : List Int)).length = ((((((([1] : List Int) ++ ([2] : List Int)) ++ ([3] : List Int)) ++ ([4] : List Int)) ++ ([5] : List Int)) ++ ([6] : List Int)) ++ ([7] : List Int)).length + 1 := by first | rfl | exact List.length_append | simp
 refine Lv ?_
 refine E0 ?_
 refine Aj Ae Ii (k := fun r36 hr36 => ?_)
 refine Gs ?_
 refine Aj Ae Lb (k := fun r37 hr37 => ?_)
 refine Gr ?_
 refine Aw 12 rfl (fun hq10 => ?_) (fun hq10 => ?_)
 rotate_left
 ·refine Ag 4 rfl ?_
  refine Rx ?_
  refine Tw ?_
  refine iJ ?_
  refine Aj Ae Ii (k := fun r44 hr44 => ?_)
  refine Gs ?_
  refine Aj Ae Lb (k := fun r45 hr45 => ?_)
  refine Gr ?_
  refine Aw 12 rfl (fun hq12 => ?_) (fun hq12 => ?_)
  ·exact absurd hq12 hq10
  refine Sk ?_
  refine Tw ?_
  refine Ya ?_
  refine Jl ?_
  refine Gg (.inr rfl) results226 (qa (qa (qa (qa q0)))) ?_
  refine iW ?_
  refine Z5 ?_
  refine Db [rD3] (qa (qa (qa (qa (qa (qc (qa (qa (qa (qa (qa (qa (qa (qa (qa (qa (qa (qa (qa (qa (qa (qa (qa (qa (qa (qa (qa (qa (qa (qa (qa (qa (qa (qa (qa (qa (qa (qa q0)))))))))))))))))))))))))))))))))))))) results125 z1 (fun w1 hw1 => ?_)
  exact ⟨ax8, cx8, Bx8, (rq (((hF.pos hq2).pos hq3).neg hq10)), (Aq (L := Bx8) (hw1.perm (qb (qb (qb (qb (qb q0)))))) rfl.symm), (by rw [(((hF.pos hq2).pos hq3).neg hq10).eq]; exact hox8), (by rw [(((hF.pos hq2).pos hq3).neg hq10).eq]; first | omega | (simp only [List.length_append, List.length_cons, List.length_nil]; omega) | (simp; omega) | (simp; done))⟩
 refine Zo ?_
 refine Dv (vs := [(Value.agg [(vi 9), (vt ([108, 105, 115, 116] : Ai)), (vi 1)].toArray)]) hl3 (qa (qa q0)) Dh ?_
 refine Dn ?_
 refine Aj Ae Ii (k := fun r38 hr38 => ?_)
 refine Lu ?_
 refine Aj Ae Xe (k := fun r39 hr39 => ?_)
 refine Ar ((((((((([1] : List Int) ++ ([2] : List Int)) ++ ([3] : List Int)) ++ ([4] : List Int)) ++ ([5] : List Int)) ++ ([6] : List Int)) ++ ([7] : List Int)) ++ ([8] : List Int)) ++ ([9] : List Int)) rfl Ev underlying24 Au hox8 (qb (qb (qb (qb (qb q0))))) (Ch.lit (xs := ([9] : List Int)) Au) ⟨by first | omega | (simp only [List.length_append, List.length_cons, List.length_nil]; omega) | (simp; omega) | (simp; done), by first | omega | (simp only [List.length_append, List.length_cons, List.length_nil]; omega) | (simp; omega) | (simp; done)⟩ (n := (((((((([1] : List Int) ++ ([2] : List Int)) ++ ([3] : List Int)) ++ ([4] : List Int)) ++ ([5] : List Int)) ++ ([6] : List Int)) ++ ([7] : List Int)) ++ ([8] : List Int)).length) (m := 1) (k := fun ax9 cx9 Bx9 hox9 => ?_)
 have hal9 : ((((((((([1] : List Int) ++ ([2] : List Int)) ++ ([3] : List Int)) ++ ([4] : List Int)) ++ ([5] : List Int)) ++ ([6] : List Int)) ++ ([7] : List Int)) ++ ([8] : List Int)) ++ ([9] : List Int)).length = (((((((([1] : List Int) ++ ([2] : List Int)) ++ ([3] : List Int)) ++ ([4] : List Int)) ++ ([5] : List Int)) ++ ([6] : List Int)) ++ ([7] : List Int)) ++ ([8] : List Int)).length + 1 := by first | rfl | exact List.length_append | simp
 refine Lv ?_
 refine Tw ?_
 refine iJ ?_
 refine Aj Ae Ii (k := fun r40 hr40 => ?_)
 refine Gs ?_
 refine Aj Ae Lb (k := fun r41 hr41 => ?_)
 refine Gr ?_
 refine Aw 12 rfl (fun hq11 => ?_) (fun hq11 => ?_)
 rotate_left
 ·exact absurd hq10 hq11
 refine Zo ?_
 refine C5 ?_
 refine Aj Ae Ii (k := fun r42 hr42 => ?_)
 refine Lu ?_
 refine Aj Ae Xe (k := fun r43 hr43 => ?_)
 refine Ar (((((((((([1] : List Int) ++ ([2] : List Int)) ++ ([3] : List Int)) ++ ([4] : List Int)) ++ ([5] : List Int)) ++ ([6] : List Int)) ++ ([7] : List Int)) ++ ([8] : List Int)) ++ ([9] : List Int)) ++ ([10] : List Int)) rfl Ev underlying24 Au hox9 (qb (qb (qb (qb (qb q0))))) (Ch.lit (xs := ([10] : List Int)) Au) ⟨by first | omega | (simp only [List.length_append, List.length_cons, List.length_nil]; omega) | (simp; omega) | (simp; done), by first | omega | (simp only [List.length_append, List.length_cons, List.length_nil]; omega) | (simp; omega) | (simp; done)⟩ (n := ((((((((([1] : List Int) ++ ([2] : List Int)) ++ ([3] : List Int)) ++ ([4] : List Int)) ++ ([5] : List Int)) ++ ([6] : List Int)) ++ ([7] : List Int)) ++ ([8] : List Int)) ++ ([9] : List Int)).length) (m := 1) (k := fun ax10 cx10 Bx10 hox10 => ?_)
 have hal10 : (((((((((([1] : List Int) ++ ([2] : List Int)) ++ ([3] : List Int)) ++ ([4] : List Int)) ++ ([5] : List Int)) ++ ([6] : List Int)) ++ ([7] : List Int)) ++ ([8] : List Int)) ++ ([9] : List Int)) ++ ([10] : List Int)).length = ((((((((([1] : List Int) ++ ([2] : List Int)) ++ ([3] : List Int)) ++ ([4] : List Int)) ++ ([5] : List Int)) ++ ([6] : List Int)) ++ ([7] : List Int)) ++ ([8] : List Int)) ++ ([9] : List Int)).length + 1 := by first | rfl | exact List.length_append | simp
 refine Lv ?_
 refine Tw ?_
 refine Ya ?_
 refine J6 ?_
 refine iW ?_
 refine Z5 ?_
 refine Db [rD3] (qa (qc (qa (qa (qa (qa (qa (qa (qa (qa (qa (qa (qa (qa (qa (qa (qa (qa (qa (qa (qa (qa (qa (qa (qa (qa (qa (qa (qa (qa (qa (qa (qa (qa (qa (qa (qa (qa (qa (qa (qa (qa q0)))))))))))))))))))))))))))))))))))))))))) results125 z1 (fun w1 hw1 => ?_)
 exact ⟨ax10, cx10, Bx10, (rq (((hF.pos hq2).pos hq3).pos hq10)), (Aq (L := Bx10) (hw1.perm (qb q0)) rfl.symm), (by rw [(((hF.pos hq2).pos hq3).pos hq10).eq]; exact hox10), (by rw [(((hF.pos hq2).pos hq3).pos hq10).eq]; first | omega | (simp only [List.length_append, List.length_cons, List.length_nil]; omega) | (simp; omega) | (simp; done))⟩

theorem yT (w : World) {ea0 : Addr} {ea1 : Addr} {ea2 : Addr} {ea3 : Addr} {ea4 : Addr} {ea5 : Addr} {ea6 : Addr} {ea7 : Addr} {ea8 : Addr} {ea9 : Addr} {ea10 : Addr} {ea11 : Addr} {ea12 : Addr} {ea13 : Addr} {ea14 : Addr} {ea15 : Addr} {n_ : Int} {v : Int} (hG : Gl w) (hE : Er w ea0 ea1 ea2 ea3 ea4 ea5 ea6 ea7 ea8 ea9 ea10 ea11 ea12 ea13 ea14 ea15) : Gz Tryz.prog 75 [(vi n_), (vi v)] w (Value.bool (dZ n_ v)) := by
 have hF := Is.refl (dZ n_ v)
 refine enter func75 ntmps75 (h := ?_)
 refine Qj ?_
 refine Pj (Aa call125) (fun w1 hw1 => oC w1 (n_ := n_) (hG := hG.ext hw1.ext_out) (hE := hE.ext hw1.ext_out)) (k := ?_)
 rintro w1_1 e1_1 w2_1 hw1_1 ⟨a1_1, c1_1, B1_1, he_1, hf_1, ho1_1, hl1_1⟩
 refine ⟨_, _, he_1, hw1_1.fresh hf_1, ?_⟩
 refine fK ?_
 refine Lt ?_
 refine Ka (σ1 := Nat) (σ2 := Nat) (fun n_2 x_1 => (B1_1 ++ [])) (fun n_2 x_1 => [(1, (vi v)), (4, (Value.bool false)), (8, (vs a1_1 ((Ed n_).length) c1_1)), (9, (vi ((((Ed n_).length) : Nat) : Int))), (10, (vi ((x_1 : Nat) : Int)))]) (fun n_2 x_1 => ((Ed n_).length) - x_1 < n_2 ∧ Is (Ok n_ v (((Ed n_).length) + 1) 0) (Ok n_ v n_2 x_1)) (fun n_2 x_1 => n_2) (((Ed n_).length) + 1) 0 ?_ se (List.Perm.refl _) ?_
 ·exact ⟨Nat.lt_succ_self _, Is.refl _⟩
 ·rintro (_ | n_2) x_1 ⟨hm4, hF3⟩
  ·omega
  refine Tx ?_
  refine Bd rfl (fun hq1 => ?_) (fun hq1 => ?_)
  rotate_left
  ·refine Cu ?_
   refine Kg ?_
   refine Yc ?_
   refine Ac results75 z1 (fun w1 hw1 => ?_)
   exact ⟨(rq (hF.ok1 (hF3.neg hq1))), hw1.ext_out⟩
  refine aA ?_
  refine Ad (Dl (n := (Ed n_).length) runUnderlying24 sizeOf3 x_1 (ho1_1.slj Au) (gD Da) Lp) (k := ?_)
  refine Ad (Cr isAgg3 x_1 0 (ho1_1.slj Au) (gD Da)) (k := ?_)
  refine Ew ?_
  refine cO ?_
  refine Bd rfl (fun hq2 => ?_) (fun hq2 => ?_)
  rotate_left
  ·refine Br ?_
   refine iK ?_
   exact Hw n_2 (x_1 + 1) ⟨by omega, ((hF3.pos hq1).neg hq2)⟩ (Nat.lt_succ_self _) se (List.Perm.refl _)
  refine Z2 ?_
  refine iB ?_
  refine Ac results75 z1 (fun w1 hw1 => ?_)
  exact ⟨(rq (hF.er1 ((hF3.pos hq1).pos hq2))), hw1.ext_out⟩

end Go.Proofs.YtdnjanhdnibkfaaGreatDoor.Jd

namespace Go.Proofs.YtdnjanhdnibkfaaGreatDoor.Jd
open Go.Proofs.Tryz
open Go.Proofs
open Go.RowKit (Below)
set_option maxRecDepth 100000
set_option maxHeartbeats 8000000
set_option linter.unusedVariables false
set_option linter.unusedSimpArgs false
theorem pS : Ba Tryz.prog 41 0 0 := fun r k w => by simp [Instr.fieldAt, Instr.sureAddr, fieldPlace, Ao]
theorem Zg : Ba Tryz.prog 41 1 1 := fun r k w => by simp [Instr.fieldAt, Instr.sureAddr, fieldPlace, Ao]
theorem gQ : Ba Tryz.prog 80 0 0 := fun r k w => by simp [Instr.fieldAt, Instr.sureAddr, fieldPlace, Ao]
theorem gR : Ba Tryz.prog 80 1 1 := fun r k w => by simp [Instr.fieldAt, Instr.sureAddr, fieldPlace, Ao]
theorem gS : Ba Tryz.prog 82 0 0 := fun r k w => by simp [Instr.fieldAt, Instr.sureAddr, fieldPlace, Ao]
theorem gT : Ba Tryz.prog 82 1 1 := fun r k w => by simp [Instr.fieldAt, Instr.sureAddr, fieldPlace, Ao]
theorem yU : Ba Tryz.prog 120 0 0 := fun r k w => by simp [Instr.fieldAt, Instr.sureAddr, fieldPlace, Ao]
theorem bK : Ba Tryz.prog 190 0 0 := fun r k w => by simp [Instr.fieldAt, Instr.sureAddr, fieldPlace, Ao]
theorem kV : Ba Tryz.prog 193 0 0 := fun r k w => by simp [Instr.fieldAt, Instr.sureAddr, fieldPlace, Ao]
theorem kW : Ba Tryz.prog 193 1 1 := fun r k w => by simp [Instr.fieldAt, Instr.sureAddr, fieldPlace, Ao]
theorem bL : Ba Tryz.prog 193 2 5 := fun r k w => by simp [Instr.fieldAt, Instr.sureAddr, fieldPlace, Ao]
theorem Rq : Ba Tryz.prog 346 0 0 := fun r k w => by simp [Instr.fieldAt, Instr.sureAddr, fieldPlace, Ao]
theorem Vo : Ba Tryz.prog 351 0 0 := fun r k w => by simp [Instr.fieldAt, Instr.sureAddr, fieldPlace, Ao]
theorem AP3 : Ej Tryz.prog 41 [(0, 1), (1, 1)] := ⟨_, fun w => runUnderlying41 w, fun w => by simp⟩
theorem AE8 : Ej Tryz.prog 120 [(0, 1)] := ⟨_, fun w => runUnderlying120 w, fun w => by simp⟩
theorem AE9 : Ej Tryz.prog 190 [(0, 1)] := ⟨_, fun w => runUnderlying190 w, fun w => by simp⟩
theorem AF0 : Ej Tryz.prog 193 [(0, 1), (1, 4), (5, 1)] := ⟨_, fun w => runUnderlying193 w, fun w => by simp⟩
theorem AF1 : Ej Tryz.prog 346 [(0, 2)] := ⟨_, fun w => runUnderlying346 w, fun w => by simp⟩
theorem AF2 : Ej Tryz.prog 351 [(0, 2)] := ⟨_, fun w => runUnderlying351 w, fun w => by simp⟩
theorem kX (w : World) {s : Ai} : Gz Tryz.prog 255 [(vt s)] w (Value.bool (bG s)) := by
 have hF := Is.refl (bG s)
 refine enter func255 ntmps255 (h := ?_)
 refine Qj ?_
 refine Aj Ae (aX runUnderlying9) (k := fun r1 hr1 => ?_)
 refine Kt ?_
 refine Ka (σ1 := Nat) (σ2 := Nat) (fun n_2 x_1 => ((r1, Obj.stringIter (bs s) x_1) :: [])) (fun n_2 x_1 => [(2, (Value.bool false)), (6, (Value.pointer (some ⟨r1, 0, none⟩)))]) (fun n_2 x_1 => s.length - x_1 < n_2 ∧ Is (Ni s (s.length + 1) 0) (Ni s n_2 x_1)) (fun n_2 x_1 => n_2) (s.length + 1) 0 ?_ se (List.Perm.refl _) ?_
 ·exact ⟨Nat.lt_succ_self _, Is.refl _⟩
 ·rintro (_ | n_2) x_1 ⟨hm4, hF3⟩
  ·omega
  refine Z2 ?_
  refine gB q0 (fun hq1 => ?_) (fun hq1 => ?_)
  rotate_left
  ·refine Ad Iv (k := ?_)
   refine Jk ?_
   refine S9 ?_
   refine Kg ?_
   refine Yc ?_
   refine Ac results255 z1 (fun w1 hw1 => ?_)
   exact ⟨(rq (hF.ok1 (hF3.neg hq1))), hw1.ext_out⟩
  have hrhq1 := nK s x_1
  have hphq1 := gA s x_1
  refine Ad Iv (k := ?_)
  refine Jk ?_
  refine Z26 ?_
  refine Fm ?_
  refine Z2 ?_
  refine Ad Iv (k := ?_)
  refine Mu ?_
  refine cH ?_
  refine Aw 12 rfl (fun hq2 => ?_) (fun hq2 => ?_)
  ·refine Ag 2 rfl ?_
   refine Ua ?_
   refine Z5 ?_
   refine mN ?_
   refine Ac results255 z1 (fun w1 hw1 => ?_)
   exact ⟨(rq (hF.er1 ((hF3.pos hq1).pos hq2))), hw1.ext_out⟩
  refine rL ?_
  refine Rx ?_
  refine Bd rfl (fun hq3 => ?_) (fun hq3 => ?_)
  rotate_left
  ·refine Br ?_
   refine Eu ?_
   exact Hw n_2 (x_1 + (Wm s x_1).2) ⟨by omega, (((hF3.pos hq1).neg hq2).neg hq3)⟩ (Nat.lt_succ_self _) se (List.Perm.refl _)
  refine Yc ?_
  refine mN ?_
  refine Ac results255 z1 (fun w1 hw1 => ?_)
  exact ⟨(rq (hF.er1 (((hF3.pos hq1).neg hq2).pos hq3))), hw1.ext_out⟩

theorem sY (w : World) {s : Ai} : Gz Tryz.prog 225 [(vt s)] w (Value.bool (nV s)) := by
 have hF := Is.refl (nV s)
 refine enter func225 ntmps225 (h := ?_)
 refine J5 ?_
 refine rO ?_
 refine Aw 6 rfl (fun hq1 => ?_) (fun hq1 => ?_)
 rotate_left
 ·refine Ag 2 rfl ?_
  refine Lr ?_
  refine Ac results225 z1 (fun w1 hw1 => ?_)
  exact ⟨(rq (hF.neg hq1)), hw1.ext_out⟩
 refine Ep ?_
 refine Mv (Aa call255) (fun w1 hw1 => kX w1 (s := s)) (k := ?_)
 refine Ry ?_
 refine Ac results225 z1 (fun w1 hw1 => ?_)
 exact ⟨(rq (hF.pos hq1)), hw1.ext_out⟩

theorem Wx (w : World) {a : Int} : Gz Tryz.prog 164 [(vi a)] w (Value.bool (Tp a)) := by
 have hF := Is.refl (Tp a)
 refine enter func164 ntmps164 (h := ?_)
 refine Mq ?_
 refine Ad My (k := ?_)
 refine Cg ?_
 refine Aw 5 rfl (fun hq1 => ?_) (fun hq1 => ?_)
 rotate_left
 ·refine Ag 2 rfl ?_
  refine Lr ?_
  refine Ac results164 z1 (fun w1 hw1 => ?_)
  exact ⟨(rq (hF.neg hq1)), hw1.ext_out⟩
 refine Ep ?_
 refine An Oe (k := ?_)
 refine Ry ?_
 refine Ac results164 z1 (fun w1 hw1 => ?_)
 exact ⟨(rq (hF.pos hq1)), hw1.ext_out⟩

theorem kY (w : World) {p : Ia} (hb : 0 ≤ p.bits ∧ p.bits ≤ 32) : Gz Tryz.prog 253 [(Value.agg [(vi p.addr), (vi p.bits)].toArray)] w (vi (pL p)) := by
 have hF := Is.refl (pL p)
 refine enter func253 ntmps253 (h := ?_)
 refine Z2 ?_
 refine Aj Ae hY (k := fun r1 hr1 => ?_)
 refine Oy ?_
 refine Ad (Al Rq) (k := ?_)
 refine Ad (Al gR) (k := ?_)
 refine I0 ?_
 refine Ad nI (k := ?_)
 refine Ad (Xf (h := by (have := yH (bits := p.bits) z8; simp only [kL] at this; omega))) (k := ?_)
 refine Z5 ?_
 refine Ac results253 z1 (fun w1 hw1 => ?_)
 exact ⟨(rq hF), hw1.ext_out⟩

theorem sZ (w : World) {p : Ia} : Gz Tryz.prog 214 [(Value.agg [(vi p.addr), (vi p.bits)].toArray)] w (Value.bool (Ws p)) := by
 have hF := Is.refl (Ws p)
 refine enter func214 ntmps214 (h := ?_)
 refine Z2 ?_
 refine Aj Ae hY (k := fun r1 hr1 => ?_)
 refine Oy ?_
 refine Ad (Al Rq) (k := ?_)
 refine Ad (Al gR) (k := ?_)
 refine mI ?_
 refine Aw 7 rfl (fun hq1 => ?_) (fun hq1 => ?_)
 rotate_left
 ·refine Ag 4 rfl ?_
  refine mM ?_
  refine Lr ?_
  refine Ac results214 z1 (fun w1 hw1 => ?_)
  exact ⟨(rq (hF.neg hq1)), hw1.ext_out⟩
 refine An (Al Rq) (k := ?_)
 refine An (Al gR) (k := ?_)
 refine eW ?_
 refine Qq ?_
 refine Aw 13 rfl (fun hq2 => ?_) (fun hq2 => ?_)
 rotate_left
 ·refine Ag 4 rfl ?_
  refine Lr ?_
  refine Ac results214 z1 (fun w1 hw1 => ?_)
  exact ⟨(rq ((hF.pos hq1).neg hq2)), hw1.ext_out⟩
 refine An (Al Rq) (k := ?_)
 refine An (Al gQ) (k := ?_)
 refine Qv ?_
 refine Mv (Aa call164) (fun w1 hw1 => Wx w1 (a := p.addr)) (k := ?_)
 refine Ry ?_
 refine Ac results214 z1 (fun w1 hw1 => ?_)
 exact ⟨(rq ((hF.pos hq1).pos hq2)), hw1.ext_out⟩

theorem yV (w : World) {p : Ia} (hb : 0 ≤ p.bits ∧ p.bits ≤ 32) : Gz Tryz.prog 215 [(Value.agg [(vi p.addr), (vi p.bits)].toArray)] w (Value.bool (yD p)) := by
 have hF := Is.refl (yD p)
 refine enter func215 ntmps215 (h := ?_)
 refine Z2 ?_
 refine Aj Ae hY (k := fun r1 hr1 => ?_)
 refine Jj ?_
 refine Dw mixed 8 [(true, 0), (true, 1), (true, 2), (true, 3), (false, 4), (true, 5), (true, 6), (true, 7)] z6 ?_
 refine Ay (Al Rq) (k := ?_)
 refine Ay (Al gQ) (k := ?_)
 refine Tj ?_
 refine Ay (Bq isAgg346 sizeOf346) (k := ?_)
 refine Tm (Aa call253) (fun w1 hw1 => kY w1 (p := p) (hb := Nm)) (k := ?_)
 refine Ay Kw (k := ?_)
 refine Ay Gw (k := ?_)
 refine eT ?_
 refine Ac results215 z1 (fun w1 hw1 => ?_)
 exact ⟨(rq hF), hw1.ext_out⟩

theorem eE (w : World) {p : Ia} : Gz Tryz.prog 166 [(Value.agg [(vi p.addr), (vi p.bits)].toArray)] w (Value.bool (Wt p)) := by
 have hF := Is.refl (Wt p)
 refine enter func166 ntmps166 (h := ?_)
 refine Z2 ?_
 refine Aj Ae hY (k := fun r1 hr1 => ?_)
 refine Jj ?_
 refine Z2 ?_
 refine Aj Ae (Dd (l := [_, _]) runUnderlying347 sizeOf344 zeroValue344) (k := fun r2 hr2 => ?_)
 refine Ad (Dg runUnderlying347) (k := ?_)
 refine Zx ?_
 refine Ad (Dy runUnderlying347 sizeOf344 0) (k := ?_)
 refine Ad (Bb isAgg344) (k := ?_)
 refine Mu ?_
 refine Y0 ?_
 refine Co (Aa call214) (fun w1 hw1 => sZ w1 (p := p)) (k := ?_)
 refine Oc ?_
 refine Dc rfl (fun hq1 => ?_) (fun hq1 => ?_)
 ·refine Bw ?_
  refine Lf ?_
  refine Ac results166 z1 (fun w1 hw1 => ?_)
  exact ⟨(rq (hF.t hq1)), hw1.ext_out⟩
 have hfhq1 := kR uF
 refine Wa ?_
 refine Ad (Dy runUnderlying347 sizeOf344 1) (k := ?_)
 refine Ad (Bb isAgg344) (k := ?_)
 refine Mu ?_
 refine Y0 ?_
 refine Co (Aa call215) (fun w1 hw1 => yV w1 (p := p) (hb := Nm)) (k := ?_)
 refine Oc ?_
 refine Dc rfl (fun hq2 => ?_) (fun hq2 => ?_)
 ·refine Bw ?_
  refine Lf ?_
  refine Ac results166 z1 (fun w1 hw1 => ?_)
  exact ⟨(rq ((hF.f hq1).t hq2)), hw1.ext_out⟩
 refine Wb ?_
 refine Ac results166 z1 (fun w1 hw1 => ?_)
 exact ⟨(rq ((hF.f hq1).f hq2)), hw1.ext_out⟩

theorem O7 (w : World) {p : Ia} {a : Int} : Gz Tryz.prog 221 [(Value.agg [(vi p.addr), (vi p.bits)].toArray), (vi a)] w (Value.bool (AE1 p a)) := by
 have hF := Is.refl (AE1 p a)
 refine enter func221 ntmps221 (h := ?_)
 refine Z2 ?_
 refine Aj Ae hY (k := fun r1 hr1 => ?_)
 refine iI ?_
 refine Jj ?_
 refine Dw mixed 15 [(true, 0), (false, 1), (true, 2), (true, 3), (false, 4), (true, 5), (true, 6), (true, 7), (true, 8), (true, 10), (true, 11), (false, 9), (true, 12), (true, 13), (true, 14)] z6 ?_
 refine Ay (Bq isAgg80 sizeOf80) (k := ?_)
 refine Tm (Aa call166) (fun w1 hw1 => eE w1 (p := p)) (k := ?_)
 refine Fi ?_
 refine Jz 9 rfl (fun hq1 => ?_) (fun hq1 => ?_)
 rotate_left
 ·refine Bl 2 rfl ?_
  refine eR ?_
  refine Bl 6 rfl ?_
  refine Th ?_
  refine Ac results221 z1 (fun w1 hw1 => ?_)
  exact ⟨(rq (hF.f hq1)), hw1.ext_out⟩
 have hfhq1 := kS hq1
 refine Pd ?_
 refine aJ (Aa call164) (fun w1 hw1 => Wx w1 (a := a)) (k := ?_)
 refine Tf ?_
 refine Jz 13 rfl (fun hq2 => ?_) (fun hq2 => ?_)
 rotate_left
 ·refine Bl 6 rfl ?_
  refine Th ?_
  refine Ac results221 z1 (fun w1 hw1 => ?_)
  exact ⟨(rq ((hF.t hq1).f hq2)), hw1.ext_out⟩
 have hfhq2 := Vg hq2
 refine Pd ?_
 refine Pd ?_
 refine Bj (Al gQ) (k := ?_)
 refine jH ?_
 refine Yu (args := [_, _]) (Aa call254) func254 ntmps254 ?_
 refine Mq ?_
 refine Y0 ?_
 refine Co (Aa call253) (fun w1 hw1 => kY w1 (p := p) (hb := Nm)) (k := ?_)
 refine Ad sG (k := ?_)
 refine Z5 ?_
 refine Kl _ _ results254 z1 (vp (List.Perm.refl _) nE) Xw ?_
 refine Bj Gw (k := ?_)
 refine mH ?_
 refine Ac results221 z1 (fun w1 hw1 => ?_)
 exact ⟨(rq ((hF.t hq1).t hq2)), hw1.ext_out⟩

theorem tA (w : World) {ea0 : Addr} {ea1 : Addr} {ea2 : Addr} {ea3 : Addr} {ea4 : Addr} {ea5 : Addr} {ea6 : Addr} {ea7 : Addr} {ea8 : Addr} {ea9 : Addr} {ea10 : Addr} {ea11 : Addr} {ea12 : Addr} {ea13 : Addr} {ea14 : Addr} {ea15 : Addr} {a : Int} (hG : Gl w) (hE : Er w ea0 ea1 ea2 ea3 ea4 ea5 ea6 ea7 ea8 ea9 ea10 ea11 ea12 ea13 ea14 ea15) : Gz Tryz.prog 107 [(vi a)] w (Value.tuple [(vt ((Jy a).1)), (vi ((Jy a).2))].toArray) := by
 have hF := Is.refl (Jy a)
 refine Pi func107 ntmps107 (h := ?_)
 refine Z2 ?_
 refine Hr ?_
 refine Hc ?_
 refine Co (Aa call164) (fun w1 hw1 => Wx w1 (a := a)) (k := ?_)
 refine Oc ?_
 refine Dc rfl (fun hq1 => ?_) (fun hq1 => ?_)
 ·refine Bw ?_
  refine Dn ?_
  refine Ks ?_
  refine Db [] (List.Perm.refl _) results107 (Bk.tmp rfl z1) (fun w1 hw1 => ?_)
  exact ⟨(rq (hF.t hq1)), hw1.ext_out⟩
 have hfhq1 := Vg uF
 refine Wd ?_
 refine Aj Ae (Bz (l := [_]) zeroValue106) (k := fun r1 hr1 => ?_)
 refine Jk ?_
 refine Z3 ?_
 refine Bh (args := [_]) (Aa call165) func165 ntmps165 ?_
 refine Z2 ?_
 refine Aj Ae Qh (k := fun r2 hr2 => ?_)
 refine Uc ?_
 refine Av results165 z1 ?_
 refine Kt ?_
 refine Fc Ae rfl call213 func213 ntmps213 (fun l3 rD3 rr3 hl3 => ?_)
 refine Ye ?_
 refine Z1 ?_
 refine Fm ?_
 refine aU ?_
 refine E4 ?_
 refine Zv ?_
 refine cJ ?_
 refine Ad Nu (k := ?_)
 refine Ad Kw (k := ?_)
 refine Jt (vs := [(vi (Ca .i64 (Ab .i64 a 24) 255))]) hl3 q0 Dh ?_
 refine cR ?_
 refine Dw mixed 5 [(true, 0), (true, 1), (false, 2), (false, 3), (false, 4)] z6 ?_
 refine Ay (Bb isAgg106) (k := ?_)
 refine Fi ?_
 have hbb := Rn (a := a) z8
 refine Tm (args := [(vi (Ca .i64 (Ab .i64 a 24) 255))]) (Aa call46) (fun w1 hw1 => Nf w1 (n := (Ca .i64 (Ab .i64 a 24) 255)) (hG := hG.ext hw1.ext_out) (hn := Qg)) (k := ?_)
 have hil_84351 := Eb (n := (Ca .i64 (Ab .i64 a 24) 255)) z8
 refine Gf Ae S2 (k := fun r4 hr4 => ?_)
 refine Cn ([(Lib.itoa (Ca .i64 (Ab .i64 a 24) 255))] : List Ai) (List.nil_append _) sW underlying106 Km Bi.nil (List.Perm.refl _) (Ch.lit (xs := ([(Lib.itoa (Ca .i64 (Ab .i64 a 24) 255))] : List Ai)) Km) ⟨by first | omega | (simp; done) | (simp; omega), by first | omega | (simp; done) | (simp; omega)⟩ (n := 0) (m := 1) (k := fun ax1 cx1 Bx1 hox1 => ?_)
 refine H4 ?_
 refine rR ?_
 refine Oc ?_
 refine Tw ?_
 refine Yh ?_
 refine Zv ?_
 refine cJ ?_
 refine Ad Nu (k := ?_)
 refine Ad Kw (k := ?_)
 refine Jt (vs := [(vi (Ca .i64 (Ab .i64 a 16) 255))]) hl3 q0 Dh ?_
 refine cR ?_
 refine X5 ?_
 refine Fi ?_
 have hbb := Rn (a := a) z8
 refine Tm (args := [(vi (Ca .i64 (Ab .i64 a 16) 255))]) (Aa call46) (fun w1 hw1 => Nf w1 (n := (Ca .i64 (Ab .i64 a 16) 255)) (hG := hG.ext hw1.ext_out) (hn := Qg)) (k := ?_)
 have hil_16277 := Eb (n := (Ca .i64 (Ab .i64 a 16) 255)) z8
 refine Gf Ae S2 (k := fun r5 hr5 => ?_)
 refine Cn (([(Lib.itoa (Ca .i64 (Ab .i64 a 24) 255))] : List Ai) ++ ([(Lib.itoa (Ca .i64 (Ab .i64 a 16) 255))] : List Ai)) rfl sW underlying106 Km hox1 q0 (Ch.lit (xs := ([(Lib.itoa (Ca .i64 (Ab .i64 a 16) 255))] : List Ai)) Km) ⟨by first | omega | (simp; done) | (simp; omega), by first | omega | (simp; done) | (simp; omega)⟩ (n := ([(Lib.itoa (Ca .i64 (Ab .i64 a 24) 255))] : List Ai).length) (m := 1) (k := fun ax3 cx3 Bx3 hox3 => ?_)
 have hal3 : (([(Lib.itoa (Ca .i64 (Ab .i64 a 24) 255))] : List Ai) ++ ([(Lib.itoa (Ca .i64 (Ab .i64 a 16) 255))] : List Ai)).length = ([(Lib.itoa (Ca .i64 (Ab .i64 a 24) 255))] : List Ai).length + 1 := by first | rfl | exact List.length_append | simp
 refine H4 ?_
 refine rR ?_
 refine Oc ?_
 refine Tw ?_
 refine Yh ?_
 refine Zv ?_
 refine cJ ?_
 refine Ad Nu (k := ?_)
 refine Ad Kw (k := ?_)
 refine Jt (vs := [(vi (Ca .i64 (Ab .i64 a 8) 255))]) hl3 q0 Dh ?_
 refine cR ?_
 refine X5 ?_
 refine Fi ?_
 have hbb := Rn (a := a) z8
 refine Tm (args := [(vi (Ca .i64 (Ab .i64 a 8) 255))]) (Aa call46) (fun w1 hw1 => Nf w1 (n := (Ca .i64 (Ab .i64 a 8) 255)) (hG := hG.ext hw1.ext_out) (hn := Qg)) (k := ?_)
 have hil_69706 := Eb (n := (Ca .i64 (Ab .i64 a 8) 255)) z8
 refine Gf Ae S2 (k := fun r6 hr6 => ?_)
 refine Cn ((([(Lib.itoa (Ca .i64 (Ab .i64 a 24) 255))] : List Ai) ++ ([(Lib.itoa (Ca .i64 (Ab .i64 a 16) 255))] : List Ai)) ++ ([(Lib.itoa (Ca .i64 (Ab .i64 a 8) 255))] : List Ai)) rfl sW underlying106 Km hox3 q0 (Ch.lit (xs := ([(Lib.itoa (Ca .i64 (Ab .i64 a 8) 255))] : List Ai)) Km) ⟨by first | omega | (simp; done) | (simp; omega), by first | omega | (simp; done) | (simp; omega)⟩ (n := (([(Lib.itoa (Ca .i64 (Ab .i64 a 24) 255))] : List Ai) ++ ([(Lib.itoa (Ca .i64 (Ab .i64 a 16) 255))] : List Ai)).length) (m := 1) (k := fun ax5 cx5 Bx5 hox5 => ?_)
 have hal5 : ((([(Lib.itoa (Ca .i64 (Ab .i64 a 24) 255))] : List Ai) ++ ([(Lib.itoa (Ca .i64 (Ab .i64 a 16) 255))] : List Ai)) ++ ([(Lib.itoa (Ca .i64 (Ab .i64 a 8) 255))] : List Ai)).length = (([(Lib.itoa (Ca .i64 (Ab .i64 a 24) 255))] : List Ai) ++ ([(Lib.itoa (Ca .i64 (Ab .i64 a 16) 255))] : List Ai)).length + 1 := by first | rfl | exact List.length_append | simp
 refine H4 ?_
 refine rR ?_
 refine Oc ?_
 refine Tw ?_
 refine Yh ?_
 refine Zv ?_
 refine cJ ?_
 refine Ad Nu (k := ?_)
 refine Ad Kw (k := ?_)
 refine Jt (vs := [(vi (Ca .i64 (Ab .i64 a 0) 255))]) hl3 q0 Dh ?_
 refine cR ?_
 refine X5 ?_
 refine Fi ?_
 have hbb := Rn (a := a) z8
 refine Tm (args := [(vi (Ca .i64 (Ab .i64 a 0) 255))]) (Aa call46) (fun w1 hw1 => Nf w1 (n := (Ca .i64 (Ab .i64 a 0) 255)) (hG := hG.ext hw1.ext_out) (hn := Qg)) (k := ?_)
 have hil_59981 := Eb (n := (Ca .i64 (Ab .i64 a 0) 255)) z8
 refine Gf Ae S2 (k := fun r7 hr7 => ?_)
 refine Cn (((([(Lib.itoa (Ca .i64 (Ab .i64 a 24) 255))] : List Ai) ++ ([(Lib.itoa (Ca .i64 (Ab .i64 a 16) 255))] : List Ai)) ++ ([(Lib.itoa (Ca .i64 (Ab .i64 a 8) 255))] : List Ai)) ++ ([(Lib.itoa (Ca .i64 (Ab .i64 a 0) 255))] : List Ai)) rfl sW underlying106 Km hox5 q0 (Ch.lit (xs := ([(Lib.itoa (Ca .i64 (Ab .i64 a 0) 255))] : List Ai)) Km) ⟨by first | omega | (simp; done) | (simp; omega), by first | omega | (simp; done) | (simp; omega)⟩ (n := ((([(Lib.itoa (Ca .i64 (Ab .i64 a 24) 255))] : List Ai) ++ ([(Lib.itoa (Ca .i64 (Ab .i64 a 16) 255))] : List Ai)) ++ ([(Lib.itoa (Ca .i64 (Ab .i64 a 8) 255))] : List Ai)).length) (m := 1) (k := fun ax7 cx7 Bx7 hox7 => ?_)
 have hal7 : (((([(Lib.itoa (Ca .i64 (Ab .i64 a 24) 255))] : List Ai) ++ ([(Lib.itoa (Ca .i64 (Ab .i64 a 16) 255))] : List Ai)) ++ ([(Lib.itoa (Ca .i64 (Ab .i64 a 8) 255))] : List Ai)) ++ ([(Lib.itoa (Ca .i64 (Ab .i64 a 0) 255))] : List Ai)).length = ((([(Lib.itoa (Ca .i64 (Ab .i64 a 24) 255))] : List Ai) ++ ([(Lib.itoa (Ca .i64 (Ab .i64 a 16) 255))] : List Ai)) ++ ([(Lib.itoa (Ca .i64 (Ab .i64 a 8) 255))] : List Ai)).length + 1 := by first | rfl | exact List.length_append | simp
 refine H4 ?_
 refine rR ?_
 refine Oc ?_
 refine Tw ?_
 refine Yh ?_
 refine S9 ?_
 refine Jl ?_
 refine Gg (.inr rfl) results213 q0 ?_
 refine Ti ?_
 refine Ad (Bb isAgg106) (k := ?_)
 refine Co (args := [(vs ax7 ((((([(Lib.itoa (Ca .i64 (Ab .i64 a 24) 255))] : List Ai) ++ ([(Lib.itoa (Ca .i64 (Ab .i64 a 16) 255))] : List Ai)) ++ ([(Lib.itoa (Ca .i64 (Ab .i64 a 8) 255))] : List Ai)) ++ ([(Lib.itoa (Ca .i64 (Ab .i64 a 0) 255))] : List Ai)).length) cx7), (vt ([46] : Ai))]) (Aa call48) (fun w1 hw1 => Zc w1 (h_xs := (hox7.slj Km) w1 hw1) (xs := (((([(Lib.itoa (Ca .i64 (Ab .i64 a 24) 255))] : List Ai) ++ ([(Lib.itoa (Ca .i64 (Ab .i64 a 16) 255))] : List Ai)) ++ ([(Lib.itoa (Ca .i64 (Ab .i64 a 8) 255))] : List Ai)) ++ ([(Lib.itoa (Ca .i64 (Ab .i64 a 0) 255))] : List Ai))) (sep := ([46] : Ai)) (hc := hox7.le) (hn := Qg) (hl := Nat.le_trans (show (Lib.join (((([(Lib.itoa (Ca .i64 (Ab .i64 a 24) 255))] : List Ai) ++ ([(Lib.itoa (Ca .i64 (Ab .i64 a 16) 255))] : List Ai)) ++ ([(Lib.itoa (Ca .i64 (Ab .i64 a 8) 255))] : List Ai)) ++ ([(Lib.itoa (Ca .i64 (Ab .i64 a 0) 255))] : List Ai)) ([46] : Ai)).length ≤ 100000 by (have := Wv (Eb (n := Ca .i64 (Ab .i64 a 24) 255) z8) (Eb (n := Ca .i64 (Ab .i64 a 16) 255) z8) (Eb (n := Ca .i64 (Ab .i64 a 8) 255) z8) (Eb (n := Ca .i64 (Ab .i64 a 0) 255) z8); omega)) (by decide))) (k := ?_)
 have hjl_72793 : (Lib.join (((([(Lib.itoa (Ca .i64 (Ab .i64 a 24) 255))] : List Ai) ++ ([(Lib.itoa (Ca .i64 (Ab .i64 a 16) 255))] : List Ai)) ++ ([(Lib.itoa (Ca .i64 (Ab .i64 a 8) 255))] : List Ai)) ++ ([(Lib.itoa (Ca .i64 (Ab .i64 a 0) 255))] : List Ai)) ([46] : Ai)).length ≤ 100000 := by (have := Wv (Eb (n := Ca .i64 (Ab .i64 a 24) 255) z8) (Eb (n := Ca .i64 (Ab .i64 a 16) 255) z8) (Eb (n := Ca .i64 (Ab .i64 a 8) 255) z8) (Eb (n := Ca .i64 (Ab .i64 a 0) 255) z8); omega)
 refine Zw ?_
 refine Db [rD3] (qa (qc (qa (qa (qa (qa q0)))))) results107 (Bk.tmp rfl z1) (fun w1 hw1 => ?_)
 exact ⟨(rq (hF.f hq1)), hw1.ext_out⟩

theorem Px (w : World) {ea0 : Addr} {ea1 : Addr} {ea2 : Addr} {ea3 : Addr} {ea4 : Addr} {ea5 : Addr} {ea6 : Addr} {ea7 : Addr} {ea8 : Addr} {ea9 : Addr} {ea10 : Addr} {ea11 : Addr} {ea12 : Addr} {ea13 : Addr} {ea14 : Addr} {ea15 : Addr} {t : Ai} {most : Int} (n_t : t.length ≤ 1000000) (hG : Gl w) (hE : Er w ea0 ea1 ea2 ea3 ea4 ea5 ea6 ea7 ea8 ea9 ea10 ea11 ea12 ea13 ea14 ea15) (hm : 0 ≤ most ∧ most ≤ 1000000000) : Gz Tryz.prog 163 [(Value.agg [(vt t)].toArray), (vi most)] w (Value.tuple [(vi ((Di t most).1)), (Value.bool ((Di t most).2))].toArray) := by
 have hF := Is.refl (Di t most)
 refine enter func163 ntmps163 (h := ?_)
 refine Z2 ?_
 refine Aj Ae Qh (k := fun r1 hr1 => ?_)
 refine Hr ?_
 refine Oy ?_
 refine Jj ?_
 refine Z2 ?_
 refine vI ?_
 refine Aj Ae (aX runUnderlying9) (k := fun r2 hr2 => ?_)
 refine Kt ?_
 refine Kb (σ1 := Nat) (σ2 := Int) (σ3 := Nat) (fun n_3 n_1 x_2 => ((r2, Obj.stringIter (bs t) x_2) :: ((r1, oc [(vt t)] 190) :: []))) (fun n_3 n_1 x_2 => [(1, (vi most)), (2, (Value.pointer (some ⟨r1, 0, none⟩))), (4, (vi 0)), (5, (Value.bool false)), (6, (vi n_1)), (11, (Value.pointer (some ⟨r2, 0, none⟩)))]) (fun n_3 n_1 x_2 => t.length - x_2 < n_3 ∧ Is (Ps t most (t.length + 1) 0 0) (Ps t most n_3 n_1 x_2) ∧ 0 ≤ n_1 ∧ n_1 ≤ 10 * most + 9) (fun n_3 n_1 x_2 => n_3) (t.length + 1) 0 0 ?_ se (List.Perm.refl _) ?_
 ·exact ⟨Nat.lt_succ_self _, Is.refl _, z8⟩
 ·rintro (_ | n_3) n_1 x_2 ⟨hm5, hF4, hi6⟩
  ·omega
  refine Z2 ?_
  refine gB q0 (fun hq1 => ?_) (fun hq1 => ?_)
  rotate_left
  ·refine Ad Iv (k := ?_)
   refine Jk ?_
   refine S9 ?_
   refine Kg ?_
   refine Ez ?_
   refine Dw mixed 13 [(true, 0), (true, 1), (true, 2), (true, 3), (true, 4), (true, 5), (true, 7), (true, 8), (false, 6), (true, 9), (true, 10), (true, 11), (true, 12)] z6 ?_
   refine Mp ?_
   refine Fi ?_
   refine Ay Oe (k := ?_)
   refine Fi ?_
   refine Ge 36 rfl (fun hq5 => ?_) (fun hq5 => ?_)
   rotate_left
   ·refine Bl 5 rfl ?_
    refine Ay Du (k := ?_)
    refine Ud ?_
    refine eT ?_
    refine Ac results163 (Bk.tmp rfl z1) (fun w1 hw1 => ?_)
    exact ⟨(rq ((hF.ok2 (hF4.neg hq1)).neg hq5)), hw1.ext_out⟩
   refine Pd ?_
   refine Bj (Al bK) (k := ?_)
   refine Bj (Bb isAgg9) (k := ?_)
   refine aJ (args := [(vi n_1)]) (Aa call46) (fun w1 hw1 => Nf w1 (n := n_1) (hG := hG.ext hw1.ext_out) (hn := Qg)) (k := ?_)
   have hil_26873 := Eb (n := n_1) z8
   refine Bj T7 (k := ?_)
   refine Ay Fx (k := ?_)
   refine Ud ?_
   refine eT ?_
   refine Ac results163 (Bk.tmp rfl z1) (fun w1 hw1 => ?_)
   exact ⟨(rq ((hF.ok2 (hF4.neg hq1)).pos hq5)), hw1.ext_out⟩
  have hrhq1 := nK t x_2
  have hphq1 := gA t x_2
  refine Ad Iv (k := ?_)
  refine Jk ?_
  refine Z26 ?_
  refine Fm ?_
  refine Z2 ?_
  refine Ad Iv (k := ?_)
  refine Hc ?_
  refine cH ?_
  refine Aw 17 rfl (fun hq2 => ?_) (fun hq2 => ?_)
  ·refine Ag 2 rfl ?_
   refine Yd ?_
   refine Ua ?_
   refine Ks ?_
   refine mN ?_
   refine Ac results163 (Bk.tmp rfl z1) (fun w1 hw1 => ?_)
   exact ⟨(rq (hF.er2 ((hF4.pos hq1).pos hq2))), hw1.ext_out⟩
  refine rL ?_
  refine Te ?_
  refine Aw 21 rfl (fun hq3 => ?_) (fun hq3 => ?_)
  ·refine Ag 3 rfl ?_
   refine Ua ?_
   refine Ks ?_
   refine mN ?_
   refine Ac results163 (Bk.tmp rfl z1) (fun w1 hw1 => ?_)
   exact ⟨(rq (hF.er2 (((hF4.pos hq1).neg hq2).pos hq3))), hw1.ext_out⟩
  refine Oz ?_
  refine An Uh (k := ?_)
  refine Rx ?_
  refine Bd rfl (fun hq4 => ?_) (fun hq4 => ?_)
  rotate_left
  ·refine Br ?_
   refine Gv ?_
   refine Lq ?_
   refine Ad dN (k := ?_)
   refine Cg ?_
   refine AL0 ?_
   refine rT ?_
   refine Eu ?_
   exact Gt n_3 ((n_1 * 10) + ((((Wm t x_2).1 : Nat) : Int) - 48)) (x_2 + (Wm t x_2).2) ⟨by omega, ((((hF4.pos hq1).neg hq2).neg hq3).neg hq4), z8⟩ (Nat.lt_succ_self _) se (List.Perm.refl _)
  refine Z2 ?_
  refine Ks ?_
  refine mN ?_
  refine Ac results163 (Bk.tmp rfl z1) (fun w1 hw1 => ?_)
  exact ⟨(rq (hF.er2 ((((hF4.pos hq1).neg hq2).neg hq3).pos hq4))), hw1.ext_out⟩

theorem tB (w : World) {ea0 : Addr} {ea1 : Addr} {ea2 : Addr} {ea3 : Addr} {ea4 : Addr} {ea5 : Addr} {ea6 : Addr} {ea7 : Addr} {ea8 : Addr} {ea9 : Addr} {ea10 : Addr} {ea11 : Addr} {ea12 : Addr} {ea13 : Addr} {ea14 : Addr} {ea15 : Addr} {s : Ai} (n_s : s.length ≤ 1000000) (hG : Gl w) (hE : Er w ea0 ea1 ea2 ea3 ea4 ea5 ea6 ea7 ea8 ea9 ea10 ea11 ea12 ea13 ea14 ea15) : Gz Tryz.prog 52 [(vt s)] w (Value.tuple [(vi ((Rj s).1)), (vi ((Rj s).2))].toArray) := by
 have hF := Is.refl (Rj s)
 refine enter func52 ntmps52 (h := ?_)
 refine Z2 ?_
 refine Hr ?_
 refine vH ?_
 refine Ad (Cf (cs := [_, _, _, _, _, _]) zeroValue193 AF0) (k := ?_)
 refine Aj Ae tY (k := fun r1 hr1 => ?_)
 refine Mu ?_
 refine Wf ?_
 refine Jj ?_
 refine Qp ?_
 refine Qi ?_
 refine Aj Ae (Dd (l := [_, _, _, _]) runUnderlying260 sizeOf35 zeroValue35) (k := fun r2 hr2 => ?_)
 refine Bh (args := [_]) (Aa call106) func106 ntmps106 ?_
 refine Qj ?_
 refine vP ?_
 refine AK7 ?_
 refine E8 ?_
 refine J0 ?_
 refine vI ?_
 refine Co (args := [(vt s), (vt ([46] : Ai))]) (Aa call51) (fun w1 hw1 => bF w1 (s := s) (sep := ([46] : Ai)) (hG := hG.ext hw1.ext_out) (hn := Qg)) (k := ?_)
 have hct_60744 := Uw s ([46] : Ai)
 refine fG ?_
 refine vH ?_
 refine Co (Aa call163) (fun w1 hw1 => Px w1 (t := ((Lib.cut s ([46] : Ai)).1)) (most := 255) (n_t := Nm) (hG := hG.ext hw1.ext_out) (hE := hE.ext hw1.ext_out) (hm := Nm)) (k := ?_)
 refine Qt ?_
 refine Jj ?_
 refine Yw _ _ [((⟨r1, 5, none⟩ : Addr), (vi 0))] (vp (qa q0) (nC nE)) (by repeat (first | exact KC.nil | refine KC.cons tU rfl ?_)) mixed 16 [(true, 0), (true, 1), (true, 2), (true, 3), (true, 4), (true, 5), (true, 6), (true, 7), (true, 8), (true, 9), (true, 10), (false, 11), (true, 12), (true, 13), (true, 14), (false, 15)] z6 ?_
 refine iU ?_
 refine fL ?_
 refine F8 ?_
 refine iU ?_
 refine Sr ((Fp).k) (k := ?_)
 refine H0 ?_
 refine Sr ((Ek (m := 0) runUnderlying191 sizeOf3).k) (k := ?_)
 refine kB (V' := ((r1, oc [(vt s), (vi ((Di ((Lib.cut s ([46] : Ai)).1) 255).1)), (vi 0), (vi 0), (vi 0), (vi 0)] 193) :: [])) (by repeat (first | exact KC.nil | refine KC.cons tU rfl ?_)) z86 (k := ?_)
 refine fL ?_
 refine F9 ?_
 refine kB (V' := ((r1, oc [(Value.string (bs ((Lib.cut s ([46] : Ai)).2.1))), (vi ((Di ((Lib.cut s ([46] : Ai)).1) 255).1)), (vi 0), (vi 0), (vi 0), (vi 0)] 193) :: [])) (by repeat (first | exact KC.nil | refine KC.cons tU rfl ?_)) (Bc (l' := [_, _, _, _, _, _]) sizeOf9) (k := ?_)
 refine gC ?_
 refine Fq (nC nE) ?_
 refine Jm ?_
 refine iV ?_
 refine I1 ?_
 refine iV ?_
 refine Zs ?_
 refine Qp ?_
 refine Cs 46 rfl (fun hq1 => ?_) (fun hq1 => ?_)
 rotate_left
 ·refine Ag 7 rfl ?_
  refine Lr ?_
  refine I2 ?_
  refine iT ?_
  refine Ks ?_
  refine Ac results52 (Bk.tmp rfl z1) (fun w1 hw1 => ?_)
  exact ⟨(rq (hF.f hq1)), hw1.ext_out⟩
 refine Oz ?_
 refine I6 ?_
 refine J1 ?_
 refine I3 ?_
 refine Oc ?_
 refine Dc rfl (fun hq2 => ?_) (fun hq2 => ?_)
 ·refine Bw ?_
  refine Lf ?_
  refine iT ?_
  refine Ks ?_
  refine Ac results52 (Bk.tmp rfl z1) (fun w1 hw1 => ?_)
  exact ⟨(rq ((hF.t hq1).t hq2)), hw1.ext_out⟩
 refine AB0 ?_
 refine iQ ?_
 refine E8 ?_
 refine J0 ?_
 refine vI ?_
 refine Co (args := [(Value.string (bs ((Lib.cut s ([46] : Ai)).2.1))), (vt ([46] : Ai))]) (Aa call51) (fun w1 hw1 => bF w1 (s := ((Lib.cut s ([46] : Ai)).2.1)) (sep := ([46] : Ai)) (hG := hG.ext hw1.ext_out) (hn := Qg)) (k := ?_)
 have hct_48814 := Uw ((Lib.cut s ([46] : Ai)).2.1) ([46] : Ai)
 refine fG ?_
 refine vH ?_
 refine Co (Aa call163) (fun w1 hw1 => Px w1 (t := ((Lib.cut ((Lib.cut s ([46] : Ai)).2.1) ([46] : Ai)).1)) (most := 255) (n_t := Nm) (hG := hG.ext hw1.ext_out) (hE := hE.ext hw1.ext_out) (hm := Nm)) (k := ?_)
 refine Qt ?_
 refine Jj ?_
 refine Yw _ _ [((⟨r1, 5, none⟩ : Addr), (vi 1))] (vp (List.Perm.refl _) (nC nE)) (by repeat (first | exact KC.nil | refine KC.cons tU rfl ?_)) mixed 16 [(true, 0), (true, 1), (true, 2), (true, 3), (true, 4), (true, 5), (true, 6), (true, 7), (true, 8), (true, 9), (true, 10), (false, 11), (true, 12), (true, 13), (true, 14), (false, 15)] z6 ?_
 refine iU ?_
 refine fL ?_
 refine F8 ?_
 refine iU ?_
 refine Sr ((Fp).k) (k := ?_)
 refine H0 ?_
 refine Sr ((Ek (m := 1) runUnderlying191 sizeOf3).k) (k := ?_)
 refine kB (V' := ((r1, oc [(Value.string (bs ((Lib.cut s ([46] : Ai)).2.1))), (vi ((Di ((Lib.cut s ([46] : Ai)).1) 255).1)), (vi ((Di ((Lib.cut ((Lib.cut s ([46] : Ai)).2.1) ([46] : Ai)).1) 255).1)), (vi 0), (vi 0), (vi 1)] 193) :: [])) (by repeat (first | exact KC.nil | refine KC.cons tU rfl ?_)) z86 (k := ?_)
 refine fL ?_
 refine F9 ?_
 refine kB (V' := ((r1, oc [(Value.string (bs ((Lib.cut ((Lib.cut s ([46] : Ai)).2.1) ([46] : Ai)).2.1))), (vi ((Di ((Lib.cut s ([46] : Ai)).1) 255).1)), (vi ((Di ((Lib.cut ((Lib.cut s ([46] : Ai)).2.1) ([46] : Ai)).1) 255).1)), (vi 0), (vi 0), (vi 1)] 193) :: [])) (by repeat (first | exact KC.nil | refine KC.cons tU rfl ?_)) (Bc (l' := [_, _, _, _, _, _]) sizeOf9) (k := ?_)
 refine gC ?_
 refine Fq (nC nE) ?_
 refine Jm ?_
 refine iV ?_
 refine I1 ?_
 refine iV ?_
 refine Zs ?_
 refine Qp ?_
 refine Cs 46 rfl (fun hq3 => ?_) (fun hq3 => ?_)
 rotate_left
 ·refine Ag 7 rfl ?_
  refine Lr ?_
  refine I2 ?_
  refine iT ?_
  refine Ks ?_
  refine Ac results52 (Bk.tmp rfl z1) (fun w1 hw1 => ?_)
  exact ⟨(rq (((hF.t hq1).f hq2).f hq3)), hw1.ext_out⟩
 refine Oz ?_
 refine I6 ?_
 refine J1 ?_
 refine I3 ?_
 refine Oc ?_
 refine Dc rfl (fun hq4 => ?_) (fun hq4 => ?_)
 ·refine Bw ?_
  refine Lf ?_
  refine iT ?_
  refine Ks ?_
  refine Ac results52 (Bk.tmp rfl z1) (fun w1 hw1 => ?_)
  exact ⟨(rq ((((hF.t hq1).f hq2).t hq3).t hq4)), hw1.ext_out⟩
 refine AB1 ?_
 refine iQ ?_
 refine E8 ?_
 refine J0 ?_
 refine vI ?_
 refine Co (args := [(Value.string (bs ((Lib.cut ((Lib.cut s ([46] : Ai)).2.1) ([46] : Ai)).2.1))), (vt ([46] : Ai))]) (Aa call51) (fun w1 hw1 => bF w1 (s := ((Lib.cut ((Lib.cut s ([46] : Ai)).2.1) ([46] : Ai)).2.1)) (sep := ([46] : Ai)) (hG := hG.ext hw1.ext_out) (hn := Qg)) (k := ?_)
 have hct_70887 := Uw ((Lib.cut ((Lib.cut s ([46] : Ai)).2.1) ([46] : Ai)).2.1) ([46] : Ai)
 refine fG ?_
 refine vH ?_
 refine Co (Aa call163) (fun w1 hw1 => Px w1 (t := ((Lib.cut ((Lib.cut ((Lib.cut s ([46] : Ai)).2.1) ([46] : Ai)).2.1) ([46] : Ai)).1)) (most := 255) (n_t := Nm) (hG := hG.ext hw1.ext_out) (hE := hE.ext hw1.ext_out) (hm := Nm)) (k := ?_)
 refine Qt ?_
 refine Jj ?_
 refine Yw _ _ [((⟨r1, 5, none⟩ : Addr), (vi 2))] (vp (List.Perm.refl _) (nC nE)) (by repeat (first | exact KC.nil | refine KC.cons tU rfl ?_)) mixed 16 [(true, 0), (true, 1), (true, 2), (true, 3), (true, 4), (true, 5), (true, 6), (true, 7), (true, 8), (true, 9), (true, 10), (false, 11), (true, 12), (true, 13), (true, 14), (false, 15)] z6 ?_
 refine iU ?_
 refine fL ?_
 refine F8 ?_
 refine iU ?_
 refine Sr ((Fp).k) (k := ?_)
 refine H0 ?_
 refine Sr ((Ek (m := 2) runUnderlying191 sizeOf3).k) (k := ?_)
 refine kB (V' := ((r1, oc [(Value.string (bs ((Lib.cut ((Lib.cut s ([46] : Ai)).2.1) ([46] : Ai)).2.1))), (vi ((Di ((Lib.cut s ([46] : Ai)).1) 255).1)), (vi ((Di ((Lib.cut ((Lib.cut s ([46] : Ai)).2.1) ([46] : Ai)).1) 255).1)), (vi ((Di ((Lib.cut ((Lib.cut ((Lib.cut s ([46] : Ai)).2.1) ([46] : Ai)).2.1) ([46] : Ai)).1) 255).1)), (vi 0), (vi 2)] 193) :: [])) (by repeat (first | exact KC.nil | refine KC.cons tU rfl ?_)) z86 (k := ?_)
 refine fL ?_
 refine F9 ?_
 refine kB (V' := ((r1, oc [(Value.string (bs ((Lib.cut ((Lib.cut ((Lib.cut s ([46] : Ai)).2.1) ([46] : Ai)).2.1) ([46] : Ai)).2.1))), (vi ((Di ((Lib.cut s ([46] : Ai)).1) 255).1)), (vi ((Di ((Lib.cut ((Lib.cut s ([46] : Ai)).2.1) ([46] : Ai)).1) 255).1)), (vi ((Di ((Lib.cut ((Lib.cut ((Lib.cut s ([46] : Ai)).2.1) ([46] : Ai)).2.1) ([46] : Ai)).1) 255).1)), (vi 0), (vi 2)] 193) :: [])) (by repeat (first | exact KC.nil | refine KC.cons tU rfl ?_)) (Bc (l' := [_, _, _, _, _, _]) sizeOf9) (k := ?_)
 refine gC ?_
 refine Fq (nC nE) ?_
 refine Jm ?_
 refine iV ?_
 refine I1 ?_
 refine iV ?_
 refine Zs ?_
 refine Qp ?_
 refine Cs 46 rfl (fun hq5 => ?_) (fun hq5 => ?_)
 rotate_left
 ·refine Ag 7 rfl ?_
  refine Lr ?_
  refine I2 ?_
  refine iT ?_
  refine Ks ?_
  refine Ac results52 (Bk.tmp rfl z1) (fun w1 hw1 => ?_)
  exact ⟨(rq (((((hF.t hq1).f hq2).t hq3).f hq4).f hq5)), hw1.ext_out⟩
 refine Oz ?_
 refine I6 ?_
 refine J1 ?_
 refine I3 ?_
 refine Oc ?_
 refine Dc rfl (fun hq6 => ?_) (fun hq6 => ?_)
 ·refine Bw ?_
  refine Lf ?_
  refine iT ?_
  refine Ks ?_
  refine Ac results52 (Bk.tmp rfl z1) (fun w1 hw1 => ?_)
  exact ⟨(rq ((((((hF.t hq1).f hq2).t hq3).f hq4).t hq5).t hq6)), hw1.ext_out⟩
 refine Wa ?_
 refine Ad (Dy runUnderlying260 sizeOf35 3) (k := ?_)
 refine iQ ?_
 refine E8 ?_
 refine J0 ?_
 refine vI ?_
 refine Co (args := [(Value.string (bs ((Lib.cut ((Lib.cut ((Lib.cut s ([46] : Ai)).2.1) ([46] : Ai)).2.1) ([46] : Ai)).2.1))), (vt ([46] : Ai))]) (Aa call51) (fun w1 hw1 => bF w1 (s := ((Lib.cut ((Lib.cut ((Lib.cut s ([46] : Ai)).2.1) ([46] : Ai)).2.1) ([46] : Ai)).2.1)) (sep := ([46] : Ai)) (hG := hG.ext hw1.ext_out) (hn := Qg)) (k := ?_)
 have hct_80526 := Uw ((Lib.cut ((Lib.cut ((Lib.cut s ([46] : Ai)).2.1) ([46] : Ai)).2.1) ([46] : Ai)).2.1) ([46] : Ai)
 refine fG ?_
 refine vH ?_
 refine Co (Aa call163) (fun w1 hw1 => Px w1 (t := ((Lib.cut ((Lib.cut ((Lib.cut ((Lib.cut s ([46] : Ai)).2.1) ([46] : Ai)).2.1) ([46] : Ai)).2.1) ([46] : Ai)).1)) (most := 255) (n_t := Nm) (hG := hG.ext hw1.ext_out) (hE := hE.ext hw1.ext_out) (hm := Nm)) (k := ?_)
 refine Qt ?_
 refine Jj ?_
 refine Yw _ _ [((⟨r1, 5, none⟩ : Addr), (vi 3))] (vp (List.Perm.refl _) (nC nE)) (by repeat (first | exact KC.nil | refine KC.cons tU rfl ?_)) mixed 16 [(true, 0), (true, 1), (true, 2), (true, 3), (true, 4), (true, 5), (true, 6), (true, 7), (true, 8), (true, 9), (true, 10), (false, 11), (true, 12), (true, 13), (true, 14), (false, 15)] z6 ?_
 refine iU ?_
 refine fL ?_
 refine F8 ?_
 refine iU ?_
 refine Sr ((Fp).k) (k := ?_)
 refine H0 ?_
 refine Sr ((Ek (m := 3) runUnderlying191 sizeOf3).k) (k := ?_)
 refine kB (V' := ((r1, oc [(Value.string (bs ((Lib.cut ((Lib.cut ((Lib.cut s ([46] : Ai)).2.1) ([46] : Ai)).2.1) ([46] : Ai)).2.1))), (vi ((Di ((Lib.cut s ([46] : Ai)).1) 255).1)), (vi ((Di ((Lib.cut ((Lib.cut s ([46] : Ai)).2.1) ([46] : Ai)).1) 255).1)), (vi ((Di ((Lib.cut ((Lib.cut ((Lib.cut s ([46] : Ai)).2.1) ([46] : Ai)).2.1) ([46] : Ai)).1) 255).1)), (vi ((Di ((Lib.cut ((Lib.cut ((Lib.cut ((Lib.cut s ([46] : Ai)).2.1) ([46] : Ai)).2.1) ([46] : Ai)).2.1) ([46] : Ai)).1) 255).1)), (vi 3)] 193) :: [])) (by repeat (first | exact KC.nil | refine KC.cons tU rfl ?_)) z86 (k := ?_)
 refine fL ?_
 refine F9 ?_
 refine kB (V' := ((r1, oc [(Value.string (bs ((Lib.cut ((Lib.cut ((Lib.cut ((Lib.cut s ([46] : Ai)).2.1) ([46] : Ai)).2.1) ([46] : Ai)).2.1) ([46] : Ai)).2.1))), (vi ((Di ((Lib.cut s ([46] : Ai)).1) 255).1)), (vi ((Di ((Lib.cut ((Lib.cut s ([46] : Ai)).2.1) ([46] : Ai)).1) 255).1)), (vi ((Di ((Lib.cut ((Lib.cut ((Lib.cut s ([46] : Ai)).2.1) ([46] : Ai)).2.1) ([46] : Ai)).1) 255).1)), (vi ((Di ((Lib.cut ((Lib.cut ((Lib.cut ((Lib.cut s ([46] : Ai)).2.1) ([46] : Ai)).2.1) ([46] : Ai)).2.1) ([46] : Ai)).1) 255).1)), (vi 3)] 193) :: [])) (by repeat (first | exact KC.nil | refine KC.cons tU rfl ?_)) (Bc (l' := [_, _, _, _, _, _]) sizeOf9) (k := ?_)
 refine gC ?_
 refine Fq (nC nE) ?_
 refine Jm ?_
 refine iV ?_
 refine I1 ?_
 refine iV ?_
 refine Zs ?_
 refine Qp ?_
 refine Cs 46 rfl (fun hq7 => ?_) (fun hq7 => ?_)
 rotate_left
 ·refine Ag 7 rfl ?_
  refine Lr ?_
  refine I2 ?_
  refine iT ?_
  refine Ks ?_
  refine Ac results52 (Bk.tmp rfl z1) (fun w1 hw1 => ?_)
  exact ⟨(rq (((((((hF.t hq1).f hq2).t hq3).f hq4).t hq5).f hq6).f hq7)), hw1.ext_out⟩
 refine Oz ?_
 refine I6 ?_
 refine J1 ?_
 refine I3 ?_
 refine Oc ?_
 refine Dc rfl (fun hq8 => ?_) (fun hq8 => ?_)
 ·refine Bw ?_
  refine Lf ?_
  refine iT ?_
  refine Ks ?_
  refine Ac results52 (Bk.tmp rfl z1) (fun w1 hw1 => ?_)
  exact ⟨(rq ((((((((hF.t hq1).f hq2).t hq3).f hq4).t hq5).f hq6).t hq7).t hq8)), hw1.ext_out⟩
 refine Wb ?_
 refine Av results106 z1 ?_
 refine Y4 ?_
 refine Qj ?_
 refine Wh ?_
 refine Ad (Al kW) (k := ?_)
 refine Ad (Bq isAgg191 sizeOf191) (k := ?_)
 refine Zx ?_
 refine Ad (Kx (m := 0) runUnderlying191 sizeOf3 isAgg3) (k := ?_)
 refine Z1 ?_
 refine Lq ?_
 refine vQ ?_
 refine mJ ?_
 refine lM ?_
 refine Ad (Kx (m := 1) runUnderlying191 sizeOf3 isAgg3) (k := ?_)
 refine Z1 ?_
 refine Lq ?_
 refine vQ ?_
 refine mJ ?_
 refine lM ?_
 refine Ad (Kx (m := 2) runUnderlying191 sizeOf3 isAgg3) (k := ?_)
 refine Z1 ?_
 refine Lq ?_
 refine vQ ?_
 refine mJ ?_
 refine lM ?_
 refine Ad (Kx (m := 3) runUnderlying191 sizeOf3 isAgg3) (k := ?_)
 refine Z1 ?_
 refine Lq ?_
 refine vQ ?_
 refine mJ ?_
 refine Zt ?_
 refine Z3 ?_
 refine Zw ?_
 refine Ac results52 (Bk.tmp rfl z1) (fun w1 hw1 => ?_)
 exact ⟨(rq ((((((((hF.t hq1).f hq2).t hq3).f hq4).t hq5).f hq6).t hq7).f hq8)), hw1.ext_out⟩

theorem eF (w : World) {p : Rk} : Gz Tryz.prog 167 [(Value.agg [(vi p.lo), (vi p.hi)].toArray)] w (Value.bool (Wu p)) := by
 have hF := Is.refl (Wu p)
 refine enter func167 ntmps167 (h := ?_)
 refine Z2 ?_
 refine Aj Ae hY (k := fun r1 hr1 => ?_)
 refine Oy ?_
 refine Ad (Bq isAgg82 sizeOf82) (k := ?_)
 refine Aj Ae (Dd (l := [_, _, _]) runUnderlying378 sizeOf349 zeroValue349) (k := fun r2 hr2 => ?_)
 refine Bh (args := [_, _]) (Aa call216) func216 ntmps216 ?_
 refine Z2 ?_
 refine Aj Ae hY (k := fun r3 hr3 => ?_)
 refine Hc ?_
 refine Ad (Dg runUnderlying378) (k := ?_)
 refine Zx ?_
 refine Ad (Dy runUnderlying378 sizeOf349 0) (k := ?_)
 refine Ad (Bb isAgg349) (k := ?_)
 refine Mu ?_
 refine Y1 ?_
 refine Bh (args := [_]) (Aa call217) func217 ntmps217 ?_
 refine Z2 ?_
 refine Aj Ae hY (k := fun r4 hr4 => ?_)
 refine Oy ?_
 refine Ad (Al Vo) (k := ?_)
 refine Ad (Al gS) (k := ?_)
 refine Hk ?_
 refine Ad (Al Vo) (k := ?_)
 refine Ad (Al gT) (k := ?_)
 refine Hk ?_
 refine Ad Oe (k := ?_)
 refine Z5 ?_
 refine Av results217 z1 ?_
 refine Sj ?_
 refine Bd rfl (fun hq1 => ?_) (fun hq1 => ?_)
 ·refine Bw ?_
  refine Lf ?_
  refine I7 ?_
  refine Ac results167 z1 (fun w1 hw1 => ?_)
  exact ⟨(rq (hF.pos hq1)), hw1.ext_out⟩
 refine Wa ?_
 refine Ad (Dy runUnderlying378 sizeOf349 1) (k := ?_)
 refine Ad (Bb isAgg349) (k := ?_)
 refine Mu ?_
 refine Y1 ?_
 refine Bh (args := [_]) (Aa call218) func218 ntmps218 ?_
 refine Z2 ?_
 refine Aj Ae hY (k := fun r5 hr5 => ?_)
 refine Oy ?_
 refine Ad (Al Vo) (k := ?_)
 refine Ad (Al gS) (k := ?_)
 refine AK0 ?_
 refine Z5 ?_
 refine Av results218 z1 ?_
 refine Sj ?_
 refine Bd rfl (fun hq2 => ?_) (fun hq2 => ?_)
 ·refine Bw ?_
  refine Lf ?_
  refine I7 ?_
  refine Ac results167 z1 (fun w1 hw1 => ?_)
  exact ⟨(rq ((hF.neg hq1).pos hq2)), hw1.ext_out⟩
 refine Wa ?_
 refine Ad (Dy runUnderlying378 sizeOf349 2) (k := ?_)
 refine Ad (Bb isAgg349) (k := ?_)
 refine Mu ?_
 refine Y1 ?_
 refine Bh (args := [_]) (Aa call219) func219 ntmps219 ?_
 refine Z2 ?_
 refine Aj Ae hY (k := fun r6 hr6 => ?_)
 refine Oy ?_
 refine Ad (Al Vo) (k := ?_)
 refine Ad (Al gT) (k := ?_)
 refine Hk ?_
 refine Ad Oe (k := ?_)
 refine Z5 ?_
 refine Av results219 z1 ?_
 refine Sj ?_
 refine Bd rfl (fun hq3 => ?_) (fun hq3 => ?_)
 ·refine Bw ?_
  refine Lf ?_
  refine I7 ?_
  refine Ac results167 z1 (fun w1 hw1 => ?_)
  exact ⟨(rq (((hF.neg hq1).neg hq2).pos hq3)), hw1.ext_out⟩
 refine Wb ?_
 refine I7 ?_
 refine Ac results167 z1 (fun w1 hw1 => ?_)
 exact ⟨(rq (((hF.neg hq1).neg hq2).neg hq3)), hw1.ext_out⟩

theorem oD (w : World) {t : Ai} (n_t : t.length ≤ 1000000) : Gz Tryz.prog 53 [(Value.agg [(vt t)].toArray)] w (vi (Sc t)) := by
 have hF := Is.refl (Sc t)
 refine enter func53 ntmps53 (h := ?_)
 refine Z2 ?_
 refine Aj Ae Qh (k := fun r1 hr1 => ?_)
 refine Oy ?_
 refine Jj ?_
 refine Z2 ?_
 refine Ad (Al yU) (k := ?_)
 refine Nn ?_
 refine Aj Ae (aX runUnderlying9) (k := fun r2 hr2 => ?_)
 refine Kt ?_
 refine Kb (σ1 := Nat) (σ2 := Int) (σ3 := Nat) (fun n_3 n_1 x_2 => ((r2, Obj.stringIter (bs t) x_2) :: ((r1, oc [(vt t)] 120) :: []))) (fun n_3 n_1 x_2 => [(2, (vi 0)), (3, (vi n_1)), (8, (Value.pointer (some ⟨r2, 0, none⟩)))]) (fun n_3 n_1 x_2 => t.length - x_2 < n_3 ∧ Is (Pt t (t.length + 1) 0 0) (Pt t n_3 n_1 x_2) ∧ 0 ≤ n_1 ∧ n_1 ≤ 65535) (fun n_3 n_1 x_2 => n_3) (t.length + 1) 0 0 ?_ se (List.Perm.refl _) ?_
 ·exact ⟨Nat.lt_succ_self _, Is.refl _, Qc⟩
 ·rintro (_ | n_3) n_1 x_2 ⟨hm5, hF4, hi6⟩
  ·omega
  refine Z2 ?_
  refine gB q0 (fun hq1 => ?_) (fun hq1 => ?_)
  rotate_left
  ·refine Ad Iv (k := ?_)
   refine Jk ?_
   refine S9 ?_
   refine Kg ?_
   refine Pc ?_
   refine Ac results53 z1 (fun w1 hw1 => ?_)
   exact ⟨(rq (hF.ok2 (hF4.neg hq1))), hw1.ext_out⟩
  have hrhq1 := nK t x_2
  have hphq1 := gA t x_2
  refine Ad Iv (k := ?_)
  refine Jk ?_
  refine Z26 ?_
  refine Fm ?_
  refine Z2 ?_
  refine Ad Iv (k := ?_)
  refine Mu ?_
  refine Ad dN (k := ?_)
  refine Cg ?_
  refine AL0 ?_
  refine Wg ?_
  refine Mu ?_
  refine cH ?_
  refine Aw 20 rfl (fun hq2 => ?_) (fun hq2 => ?_)
  ·refine Ag 2 rfl ?_
   refine Ua ?_
   refine Z5 ?_
   refine mN ?_
   refine Ac results53 z1 (fun w1 hw1 => ?_)
   exact ⟨(rq (hF.er2 ((hF4.pos hq1).pos hq2))), hw1.ext_out⟩
  refine rL ?_
  refine Rx ?_
  refine Bd rfl (fun hq3 => ?_) (fun hq3 => ?_)
  rotate_left
  ·refine Br ?_
   refine Eu ?_
   exact Gt n_3 ((n_1 * 10) + ((((Wm t x_2).1 : Nat) : Int) - 48)) (x_2 + (Wm t x_2).2) ⟨by omega, (((hF4.pos hq1).neg hq2).neg hq3), z8⟩ (Nat.lt_succ_self _) se (List.Perm.refl _)
  refine Yc ?_
  refine mN ?_
  refine Ac results53 z1 (fun w1 hw1 => ?_)
  exact ⟨(rq (hF.er2 (((hF4.pos hq1).neg hq2).pos hq3))), hw1.ext_out⟩

theorem O8 (w : World) {p : Rk} {n_ : Int} : Gz Tryz.prog 222 [(Value.agg [(vi p.lo), (vi p.hi)].toArray), (vi n_)] w (Value.bool (AE2 p n_)) := by
 have hF := Is.refl (AE2 p n_)
 refine enter func222 ntmps222 (h := ?_)
 refine Z2 ?_
 refine Aj Ae hY (k := fun r1 hr1 => ?_)
 refine Oy ?_
 refine Ad (Bq isAgg82 sizeOf82) (k := ?_)
 refine Co (Aa call167) (fun w1 hw1 => eF w1 (p := p)) (k := ?_)
 refine Cg ?_
 refine Cs 7 rfl (fun hq1 => ?_) (fun hq1 => ?_)
 rotate_left
 ·refine Ag 4 rfl ?_
  refine mM ?_
  refine Lr ?_
  refine Ac results222 z1 (fun w1 hw1 => ?_)
  exact ⟨(rq (hF.f hq1)), hw1.ext_out⟩
 have hfhq1 := yI hq1
 refine Ep ?_
 refine An (Al gS) (k := ?_)
 refine Qv ?_
 refine An My (k := ?_)
 refine Qq ?_
 refine Aw 13 rfl (fun hq2 => ?_) (fun hq2 => ?_)
 rotate_left
 ·refine Ag 4 rfl ?_
  refine Lr ?_
  refine Ac results222 z1 (fun w1 hw1 => ?_)
  exact ⟨(rq ((hF.t hq1).neg hq2)), hw1.ext_out⟩
 refine Ep ?_
 refine An (Al gT) (k := ?_)
 refine eW ?_
 refine Ry ?_
 refine Ac results222 z1 (fun w1 hw1 => ?_)
 exact ⟨(rq ((hF.t hq1).pos hq2)), hw1.ext_out⟩

theorem eG (w : World) {ea0 : Addr} {ea1 : Addr} {ea2 : Addr} {ea3 : Addr} {ea4 : Addr} {ea5 : Addr} {ea6 : Addr} {ea7 : Addr} {ea8 : Addr} {ea9 : Addr} {ea10 : Addr} {ea11 : Addr} {ea12 : Addr} {ea13 : Addr} {ea14 : Addr} {ea15 : Addr} {t : Bp} (hG : Gl w) (hE : Er w ea0 ea1 ea2 ea3 ea4 ea5 ea6 ea7 ea8 ea9 ea10 ea11 ea12 ea13 ea14 ea15) : Gz Tryz.prog 54 [(Value.agg [(vi t.addr), (vi t.port)].toArray)] w (Value.tuple [(vt ((Rl t).1)), (vi ((Rl t).2))].toArray) := by
 have hF := Is.refl (Rl t)
 refine enter func54 ntmps54 (h := ?_)
 refine Z2 ?_
 refine Aj Ae hY (k := fun r1 hr1 => ?_)
 refine Hr ?_
 refine Oy ?_
 refine Ad (Al pS) (k := ?_)
 refine Hk ?_
 refine Co (Aa call107) (fun w1 hw1 => tA w1 (a := t.addr) (hG := hG.ext hw1.ext_out) (hE := hE.ext hw1.ext_out)) (k := ?_)
 have hpl_70744 := oA t.addr
 refine Qt ?_
 refine Hc ?_
 refine Ad Og (k := ?_)
 refine Cg ?_
 refine Aw 14 rfl (fun hq1 => ?_) (fun hq1 => ?_)
 ·refine Ag 3 rfl ?_
  refine Yd ?_
  refine Ua ?_
  obtain ⟨Thgl2, fhgl2, hgl2⟩ := hE.v3
  refine mQ ?_
  refine qY ?_
  refine Sm ?_
  obtain ⟨Thgl3, fhgl3, hgl3⟩ := hE.v7
  refine jF ?_
  refine qO ?_
  refine Qu ?_
  obtain ⟨Thgl4, fhgl4, hgl4⟩ := hE.v3
  refine Ad (Dp isAgg93 hgl4) (k := ?_)
  refine qQ ?_
  refine rG ?_
  refine Ks ?_
  refine Ac results54 (Bk.tmp rfl z1) (fun w1 hw1 => ?_)
  exact ⟨(rq (hF.pos hq1)), hw1.ext_out⟩
 refine An (Al Zg) (k := ?_)
 refine uT ?_
 refine Te ?_
 refine Aw 19 rfl (fun hq5 => ?_) (fun hq5 => ?_)
 ·refine Ag 3 rfl ?_
  refine Ua ?_
  obtain ⟨Thgl6, fhgl6, hgl6⟩ := hE.v3
  refine jG ?_
  refine qY ?_
  refine Sm ?_
  obtain ⟨Thgl7, fhgl7, hgl7⟩ := hE.v7
  refine mP ?_
  refine qO ?_
  refine Qu ?_
  obtain ⟨Thgl8, fhgl8, hgl8⟩ := hE.v3
  refine rW ?_
  refine qQ ?_
  refine rG ?_
  refine Ks ?_
  refine Ac results54 (Bk.tmp rfl z1) (fun w1 hw1 => ?_)
  exact ⟨(rq ((hF.neg hq1).pos hq5)), hw1.ext_out⟩
 refine An (Al Zg) (k := ?_)
 refine uJ ?_
 refine Rx ?_
 refine Bd rfl (fun hq9 => ?_) (fun hq9 => ?_)
 rotate_left
 ·refine Br ?_
  refine Gv ?_
  refine Z3 ?_
  refine Ad (aV (s := ((Jy t.addr).1)) (s' := ([58] : Ai)) (h := Qg)) (k := ?_)
  have hsa1 : (((Jy t.addr).1) ++ ([58] : Ai)).length = ((Jy t.addr).1).length + 1 := by simp only [List.length_append, List.length_cons, List.length_nil, Nat.zero_add]
  refine Ad (Al Zg) (k := ?_)
  refine Hk ?_
  refine Co (args := [(vi t.port)]) (Aa call46) (fun w1 hw1 => Nf w1 (n := t.port) (hG := hG.ext hw1.ext_out) (hn := Qg)) (k := ?_)
  have hil_45697 := Eb (n := t.port) z8
  refine Ad (aV (s := (((Jy t.addr).1) ++ ([58] : Ai))) (s' := (Lib.itoa t.port)) (h := Qg)) (k := ?_)
  have hsa2 : ((((Jy t.addr).1) ++ ([58] : Ai)) ++ (Lib.itoa t.port)).length = (((Jy t.addr).1) ++ ([58] : Ai)).length + (Lib.itoa t.port).length := by simp only [List.length_append, List.length_cons, List.length_nil, Nat.zero_add]
  refine Zw ?_
  refine Ac results54 (Bk.tmp rfl z1) (fun w1 hw1 => ?_)
  exact ⟨(rq (((hF.neg hq1).neg hq5).neg hq9)), hw1.ext_out⟩
 refine Z2 ?_
 obtain ⟨Thgl10, fhgl10, hgl10⟩ := hE.v3
 refine Ad (Dp isAgg93 hgl10) (k := ?_)
 refine qY ?_
 refine Sm ?_
 obtain ⟨Thgl11, fhgl11, hgl11⟩ := hE.v7
 refine Ad (Dp isAgg93 hgl11) (k := ?_)
 refine qO ?_
 refine Qu ?_
 obtain ⟨Thgl12, fhgl12, hgl12⟩ := hE.v3
 refine Ad (Dp isAgg93 hgl12) (k := ?_)
 refine qQ ?_
 refine rG ?_
 refine Ks ?_
 refine Ac results54 (Bk.tmp rfl z1) (fun w1 hw1 => ?_)
 exact ⟨(rq (((hF.neg hq1).neg hq5).pos hq9)), hw1.ext_out⟩

theorem tC (w : World) {ea0 : Addr} {ea1 : Addr} {ea2 : Addr} {ea3 : Addr} {ea4 : Addr} {ea5 : Addr} {ea6 : Addr} {ea7 : Addr} {ea8 : Addr} {ea9 : Addr} {ea10 : Addr} {ea11 : Addr} {ea12 : Addr} {ea13 : Addr} {ea14 : Addr} {ea15 : Addr} {s : Ai} (n_s : s.length ≤ 1000000) (hG : Gl w) (hE : Er w ea0 ea1 ea2 ea3 ea4 ea5 ea6 ea7 ea8 ea9 ea10 ea11 ea12 ea13 ea14 ea15) : Gz Tryz.prog 18 [(vt s)] w (Value.tuple [(Value.agg [(vi ((Cw s).1.addr)), (vi ((Cw s).1.port))].toArray), (vi ((Cw s).2))].toArray) := by
 have hF := Is.refl (Cw s)
 refine enter func18 ntmps18 (h := ?_)
 refine Z2 ?_
 refine Aj Ae z85 (k := fun r1 hr1 => ?_)
 refine Mu ?_
 refine Co (args := [(vt s), (vt ([58] : Ai))]) (Aa call51) (fun w1 hw1 => bF w1 (s := s) (sep := ([58] : Ai)) (hG := hG.ext hw1.ext_out) (hn := Qg)) (k := ?_)
 have hct_62884 := Uw s ([58] : Ai)
 refine fG ?_
 refine Mu ?_
 refine Co (Aa call52) (fun w1 hw1 => tB w1 (s := ((Lib.cut s ([58] : Ai)).1)) (n_s := Nm) (hG := hG.ext hw1.ext_out) (hE := hE.ext hw1.ext_out)) (k := ?_)
 refine Qt ?_
 refine Ew ?_
 refine Ad (Cf (cs := [_]) zeroValue120 AE8) (k := ?_)
 refine Co (Aa call53) (fun w1 hw1 => oD w1 (t := ((Lib.cut s ([58] : Ai)).2.1)) (n_t := Nm)) (k := ?_)
 refine K1 ?_
 refine Aj Ae z85 (k := fun r2 hr2 => ?_)
 refine rY ?_
 refine Jk ?_
 refine H7 ?_
 refine Co (Aa call54) (fun w1 hw1 => eG w1 (t := (Bp.mk ((Rj ((Lib.cut s ([58] : Ai)).1)).1) (Sc ((Lib.cut s ([58] : Ai)).2.1)))) (hG := hG.ext hw1.ext_out) (hE := hE.ext hw1.ext_out)) (k := ?_)
 refine Qt ?_
 refine Mu ?_
 refine Ad Og (k := ?_)
 refine Cg ?_
 refine Aw 35 rfl (fun hq1 => ?_) (fun hq1 => ?_)
 ·refine Ag 2 rfl ?_
  refine Yd ?_
  refine Ua ?_
  refine K1 ?_
  obtain ⟨Thgl2, fhgl2, hgl2⟩ := hE.v3
  refine mQ ?_
  refine qY ?_
  refine Sm ?_
  obtain ⟨Thgl3, fhgl3, hgl3⟩ := hE.v7
  refine jF ?_
  refine qO ?_
  refine Qu ?_
  obtain ⟨Thgl4, fhgl4, hgl4⟩ := hE.v3
  refine Ad (Dp isAgg93 hgl4) (k := ?_)
  refine qQ ?_
  refine rG ?_
  refine rY ?_
  refine Qr ?_
  refine Ac results18 (Bk.agg isAgg41 sizeOf41 rfl me rfl z1) (fun w1 hw1 => ?_)
  exact ⟨(rq (hF.pos hq1)), hw1.ext_out⟩
 refine Ep ?_
 refine An Og (k := ?_)
 refine Te ?_
 refine Aw 39 rfl (fun hq5 => ?_) (fun hq5 => ?_)
 ·refine Ag 3 rfl ?_
  refine Ua ?_
  refine K1 ?_
  obtain ⟨Thgl6, fhgl6, hgl6⟩ := hE.v3
  refine jG ?_
  refine qY ?_
  refine Sm ?_
  obtain ⟨Thgl7, fhgl7, hgl7⟩ := hE.v7
  refine mP ?_
  refine qO ?_
  refine Qu ?_
  obtain ⟨Thgl8, fhgl8, hgl8⟩ := hE.v3
  refine rW ?_
  refine qQ ?_
  refine rG ?_
  refine rY ?_
  refine Qr ?_
  refine Ac results18 (Bk.agg isAgg41 sizeOf41 rfl me rfl z1) (fun w1 hw1 => ?_)
  exact ⟨(rq ((hF.neg hq1).pos hq5)), hw1.ext_out⟩
 refine Oz ?_
 refine An xB (k := ?_)
 refine Rx ?_
 refine Bd rfl (fun hq9 => ?_) (fun hq9 => ?_)
 rotate_left
 ·refine Br ?_
  refine Gv ?_
  refine H7 ?_
  refine rY ?_
  refine Z5 ?_
  refine Ac results18 (Bk.agg isAgg41 sizeOf41 rfl me rfl z1) (fun w1 hw1 => ?_)
  exact ⟨(rq (((hF.neg hq1).neg hq5).neg hq9)), hw1.ext_out⟩
 refine Z2 ?_
 refine K1 ?_
 obtain ⟨Thgl10, fhgl10, hgl10⟩ := hE.v3
 refine Ad (Dp isAgg93 hgl10) (k := ?_)
 refine qY ?_
 refine Sm ?_
 obtain ⟨Thgl11, fhgl11, hgl11⟩ := hE.v7
 refine Ad (Dp isAgg93 hgl11) (k := ?_)
 refine qO ?_
 refine Qu ?_
 obtain ⟨Thgl12, fhgl12, hgl12⟩ := hE.v3
 refine Ad (Dp isAgg93 hgl12) (k := ?_)
 refine qQ ?_
 refine rG ?_
 refine rY ?_
 refine Qr ?_
 refine Ac results18 (Bk.agg isAgg41 sizeOf41 rfl me rfl z1) (fun w1 hw1 => ?_)
 exact ⟨(rq (((hF.neg hq1).neg hq5).pos hq9)), hw1.ext_out⟩

end Go.Proofs.YtdnjanhdnibkfaaGreatDoor.Jd

namespace Go.Proofs.YtdnjanhdnibkfaaGreatDoor.Jd
open Go.Proofs.Tryz
open Go.Proofs
open Go.RowKit (Below)
set_option maxRecDepth 100000
set_option maxHeartbeats 8000000
set_option linter.unusedVariables false
set_option linter.unusedSimpArgs false
def Nk (x : Ib) : List Value := [Value.bool x.allow, vi x.pfx.addr, vi x.pfx.bits, vi x.prt.lo, vi x.prt.hi]
theorem Oq : Dm Nk 5 := ⟨by omega, fun _ => rfl, fun _ => rfl⟩
theorem tD (r k : Nat) {u : Value} (w : World) (h : w.cell? ⟨r, k + 0, none⟩ = some u) : (Go.method 530 200 (.pointer (some ⟨r, k, none⟩)) "Len").run Tryz.prog w = .ok (112, u) w := by
 have e : (Go.method 530 200 (.pointer (some ⟨r, k, none⟩)) "Len").run Tryz.prog w = (do let u ← loadVar 201 ⟨r, k + 0, none⟩; pure (112, u) : Sem (FuncId × Value)).run Tryz.prog w := by kernel_rfl
 rw [e]
 simp only [Sem.run_bind, Pn isAgg201 h, Result.andThen_ok, Sem.run_pure]
theorem oE (r k : Nat) {u : Value} (w : World) (h : w.cell? ⟨r, k + 0, none⟩ = some u) : (Go.method 530 200 (.pointer (some ⟨r, k, none⟩)) "Less").run Tryz.prog w = .ok (293, u) w := by
 have e : (Go.method 530 200 (.pointer (some ⟨r, k, none⟩)) "Less").run Tryz.prog w = (do let u ← loadVar 201 ⟨r, k + 0, none⟩; pure (293, u) : Sem (FuncId × Value)).run Tryz.prog w := by kernel_rfl
 rw [e]
 simp only [Sem.run_bind, Pn isAgg201 h, Result.andThen_ok, Sem.run_pure]
theorem oF (v : Value) (w : World) : (Go.method 530 200 v "Push").run Tryz.prog w = .ok (294, v) w := by kernel_rfl
theorem oG (r k : Nat) {u : Value} (w : World) (h : w.cell? ⟨r, k + 0, none⟩ = some u) : (Go.method 530 200 (.pointer (some ⟨r, k, none⟩)) "Swap").run Tryz.prog w = .ok (296, u) w := by
 have e : (Go.method 530 200 (.pointer (some ⟨r, k, none⟩)) "Swap").run Tryz.prog w = (do let u ← loadVar 201 ⟨r, k + 0, none⟩; pure (296, u) : Sem (FuncId × Value)).run Tryz.prog w := by kernel_rfl
 rw [e]
 simp only [Sem.run_bind, Pn isAgg201 h, Result.andThen_ok, Sem.run_pure]
theorem Mr (v : Value) (w : World) : (Go.method 530 207 v "wicketgate/acl.says").run Tryz.prog w = .ok (297, v) w := by kernel_rfl
theorem Ms (v : Value) (w : World) : (Go.method 530 209 v "wicketgate/acl.says").run Tryz.prog w = .ok (298, v) w := by kernel_rfl
theorem O9 : Ba Tryz.prog 84 0 0 := fun r k w => by simp [Instr.fieldAt, Instr.sureAddr, fieldPlace, Ao]
theorem pT : Ba Tryz.prog 84 1 1 := fun r k w => by simp [Instr.fieldAt, Instr.sureAddr, fieldPlace, Ao]
theorem pU : Ba Tryz.prog 84 2 3 := fun r k w => by simp [Instr.fieldAt, Instr.sureAddr, fieldPlace, Ao]
theorem Rr : Ba Tryz.prog 199 0 0 := fun r k w => by simp [Instr.fieldAt, Instr.sureAddr, fieldPlace, Ao]
theorem yW : Ba Tryz.prog 203 0 0 := fun r k w => by simp [Instr.fieldAt, Instr.sureAddr, fieldPlace, Ao]
theorem yX : Ba Tryz.prog 209 0 0 := fun r k w => by simp [Instr.fieldAt, Instr.sureAddr, fieldPlace, Ao]
theorem yY : Ba Tryz.prog 209 1 5 := fun r k w => by simp [Instr.fieldAt, Instr.sureAddr, fieldPlace, Ao]
theorem oH : Ej Tryz.prog 199 [(0, 5)] := ⟨_, fun w => runUnderlying199 w, fun w => by simp⟩
theorem AF3 : Ej Tryz.prog 203 [(0, 1)] := ⟨_, fun w => runUnderlying203 w, fun w => by simp⟩
theorem AF4 : Ej Tryz.prog 207 [] := ⟨_, fun w => runUnderlying207 w, fun w => by simp⟩
theorem AF5 : Ej Tryz.prog 209 [(0, 5), (5, 1)] := ⟨_, fun w => runUnderlying209 w, fun w => by simp⟩
theorem AP4 : Ty Tryz.prog 84 5 40 (Value.agg [(Value.bool false), (vi 0), (vi 0), (vi 0), (vi 0)].toArray) := ⟨⟨Tryz.t84, by kernel_rfl, rfl, rfl, rfl⟩, rfl⟩
theorem bM {α : Type} {s zs : List α} {I n : Nat} {x : α} (hI : I ≤ s.length) (hn : n = s.length - I) (h1 : zs.take I = s.take I) (h2 : zs.length = s.length + 1) :
  (zs.take I ++ [x].take 1 ++ zs.drop (I + 1)).take (I + 1) ++ (s.drop I).take n ++ (zs.take I ++ [x].take 1 ++ zs.drop (I + 1)).drop (I + 1 + n) = Nx s I x := by
 subst hn
 have l1 : (s.take I).length = I := by rw [List.length_take]; omega
 have l2 : (s.take I ++ [x]).length = I + 1 := by simp [l1]
 have e1 : [x].take 1 = [x] := rfl
 have e3 : (s.drop I).take (s.length - I) = s.drop I := List.take_of_length_le Hs
 have e4 : (s.take I ++ [x] ++ zs.drop (I + 1)).drop (I + 1 + (s.length - I)) = [] := List.drop_eq_nil_of_le (by rw [List.length_append, l2, List.length_drop, h2]; omega)
 rw [h1, e1, e3, List.take_left' l2, e4]
 simp [Nx]
theorem Wy {α : Type} {s : List α} {I n : Nat} {x : α} (hI : I < s.length) (hn : n = s.length - I) :
  (s.take (I + 1) ++ (s.drop I).take n ++ s.drop (I + 1 + n)).take I ++ [x].take 1 ++ (s.take (I + 1) ++ (s.drop I).take n ++ s.drop (I + 1 + n)).drop (I + 1) = Nx s I x := by
 subst hn
 have l1 : (s.take (I + 1)).length = I + 1 := by rw [List.length_take]; omega
 rw [List.drop_eq_nil_of_le (show s.length ≤ I + 1 + (s.length - I) by omega), List.append_nil, List.take_of_length_le (show (s.drop I).length ≤ s.length - I by simp), List.drop_left' l1, List.take_append_of_le_length z8, List.take_take, Nat.min_eq_left z8]
 simp [Nx]
theorem gU {α : Type} {s : List α} {i : Int} {x : α} (h : i = (s.length : Int)) : s ++ [x] = Nx s i.toNat x := by
 have : i.toNat = s.length := by omega
 rw [this, xO]
theorem bN {n : Int} {xs : List Int} {x : Int} (h : ∀ z ∈ xs, 0 ≤ z ∧ z < n) (hx : 0 ≤ x ∧ x < n) : ∀ z ∈ xs ++ [x], 0 ≤ z ∧ z < n := fun z hz => by
 rcases List.mem_append.1 hz with hz | hz
 ·exact h z hz
 ·rw [List.mem_singleton] at hz; subst hz; exact hx
theorem yZ {n : Int} {xs : List Int} {m : Nat} (h : ∀ z ∈ xs, 0 ≤ z ∧ z < n) (hm : m < xs.length) : 0 ≤ xs.getD m default ∧ xs.getD m default < n := by
 rw [List.getD_eq_getElem?_getD, List.getElem?_eq_getElem hm]; exact h _ (List.getElem_mem hm)
theorem zA {n : Int} {xs : List Int} {i j : Nat} (h : ∀ z ∈ xs, 0 ≤ z ∧ z < n) (hi : i < xs.length) (hj : j < xs.length) : ∀ z ∈ ((xs.set i (xs.getD j default)).set j (xs.getD i default)), 0 ≤ z ∧ z < n :=
 xN (p := fun z => 0 ≤ z ∧ z < n) h hi hj
theorem oI (w : World) {s_a : Option Addr} {s_c : Nat} {s : List Ib} (h_s : Sl w Nk 5 s_a s) (n_s : s.length ≤ 1000000) : Calls Tryz.prog 91 (List.toArray [(vs s_a s.length s_c)]) w fun e w2 => ∃ a1 : Option Addr, ∃ c1 : Nat, ∃ B1 : Am, e = .returned (vs a1 s.length c1) ∧ Dz w w2 B1 ∧ Bi Nk 5 84 a1 c1 B1 s := by
 have hF := Is.refl s
 refine enter func91 ntmps91 (h := ?_)
 refine Qj ?_
 refine Ad (Yr runUnderlying47) (k := ?_)
 refine Z0 ?_
 refine Dc rfl (fun hq1 => ?_) (fun hq1 => ?_)
 ·refine Bw ?_
  refine Yf ?_
  refine Ac results91 z1 (fun w1 hw1 => ?_)
  have hcan0 : ([] : List Ib) = s := by (first | rfl | (exact Il h_s Zn))
  have hlen0 : 0 = s.length := by first | (rw [← hcan0]; done) | (rw [← hcan0]; first | rfl | (simp; done) | (simp only [List.length_append, List.length_take, List.length_drop, List.length_set, List.length_replicate, List.length_cons, List.length_nil, List.length_map, Cq, Ce]; omega) | (simp; omega))
  exact ⟨none, 0, [], qK, (hw1.fresh_out.sub Mt), (hcan0 ▸ Bi.nil)⟩
 refine Wd ?_
 refine Aj Ae (Dd (l := []) runUnderlying47 sizeOf84 zeroValue84) (k := fun r1 hr1 => ?_)
 refine Cg ?_
 refine Ar s (List.nil_append _) AP4 underlying47 Oq Bi.nil (List.Perm.refl _) (Ch.of_base h_s) ⟨by omega, by omega⟩ (n := 0) (m := s.length) (k := fun ax1 cx1 Bx1 hox1 => ?_)
 refine Z5 ?_
 refine Ac results91 z1 (fun w1 hw1 => ?_)
 have hcan0 : s = s := by (first | rfl | (exact Il h_s Zn))
 have hlen0 : s.length = s.length := by first | (rw [← hcan0]; done) | (rw [← hcan0]; first | rfl | (simp; done) | (simp only [List.length_append, List.length_take, List.length_drop, List.length_set, List.length_replicate, List.length_cons, List.length_nil, List.length_map, Cq, Ce]; omega) | (simp; omega))
 exact ⟨ax1, cx1, Bx1, qK, (Aq (L := Bx1) (hw1.perm (List.Perm.refl _)) rfl.symm), (hcan0 ▸ hox1)⟩

theorem AF6 (w : World) {a : Option Addr} {c : Nat} {B : Am} {xs : List Int} (ho : Bi eI 1 3 a c B xs) (hB : ∀ p ∈ B, w.heap[p.1]? = some p.2) {i j : Int} (hi : 0 ≤ i ∧ i < xs.length) (hj : 0 ≤ j ∧ j < xs.length) (hn : xs.length < 4611686018427387904) :
  Calls Tryz.prog 296 (List.toArray [.slice a xs.length c, .int .i64 i, .int .i64 j]) w fun e w2 => ∃ B2, e = .returned (.tuple [].toArray) ∧ Tr w w2 B B2 ∧ Bi eI 1 3 a c B2 ((xs.set i.toNat (xs.getD j.toNat default)).set j.toNat (xs.getD i.toNat default)) := by
 obtain ⟨i, rfl⟩ := Int.eq_ofNat_of_zero_le hi.1
 obtain ⟨j, rfl⟩ := Int.eq_ofNat_of_zero_le hj.1
 have hi : i < xs.length := by omega
 have hj : j < xs.length := by omega
 simp only [Int.ofNat_eq_natCast, Int.toNat_natCast]
 have hsl := ho.sl Au hB
 rcases ho with ⟨rfl, rfl, rfl⟩ | ⟨r, cur, fz, rfl, rfl, hfz, h1, h2, h3⟩
 ·simp at hi
 ·have hh : w.heap[r]? = some (.cells cur 3 fz) := hB _ List.mem_cons_self
  have hc : ∀ k, k < xs.length → w.cell? ⟨r, 0 + k, none⟩ = some (.int .i64 (xs.getD k default)) := fun k hk => by
   obtain ⟨b, off, he, _, h4⟩ := hsl k _ (gD hk)
   cases he
   have := h4 0 _ rfl
   simpa using this
  have hf : ∀ k, k < xs.length → w.frozen? ⟨r, 0 + k, none⟩ = false := fun k hk => hfz.not hh z8
  refine (Tryz.IntSlice_Swap r 0 c xs.length w (xs.getD i default) (xs.getD j default) i j hi hj hn (hc i hi) (hc j hj) (hf i hi) (hf j hj)).mono fun e w2 ⟨he, q, hw⟩ => ?_
  rw [setCell_eq_setRow w r (0 + i) cur _ fz _ hh, setCell_eq_setRow _ r (0 + j) _ _ fz _ (setRow_heap w r cur _ _ _ hh)] at hw
  refine ⟨[(r, .cells ((cur.setIfInBounds (0 + i) (.int .i64 (xs.getD j default))).setIfInBounds (0 + j) (.int .i64 (xs.getD i default))) 3 fz)], he, ?_, ?_⟩
  ·subst hw
   have t1 := Wj (cur' := cur.setIfInBounds (0 + i) (.int .i64 (xs.getD j default))) hh
   have t2 := Wj (cur' := (cur.setIfInBounds (0 + i) (.int .i64 (xs.getD j default))).setIfInBounds (0 + j) (.int .i64 (xs.getD i default))) (setRow_heap w r cur (cur.setIfInBounds (0 + i) (.int .i64 (xs.getD j default))) 3 fz hh)
   have t3 := t1.trans t2
   exact ⟨t3.os, t3.tape, t3.output, t3.size, t3.same, t3.own, t3.key, t3.nd⟩
  ·refine Bi.fullF (by simpa using hfz) (by simpa using h1) (by simpa using h2) ?_
   have hflat : ∀ l : List Int, Dx eI l = l.map (Value.int .i64) := fun l => by
    induction l with
    | nil => rfl
    | cons x r ih => simp only [Dx, eI, List.map_cons, List.flatten_cons] at *; rw [ih]; rfl
   rw [hflat] at h3 ⊢
   simp only [List.length_set, Nat.mul_one, Nat.zero_add, Array.toList_setIfInBounds] at h3 ⊢
   rw [List.take_set, List.take_set, h3, List.map_set, List.map_set]
theorem eH (w : World) {r : Ib} : Gz Tryz.prog 109 [(Value.agg [(Value.bool r.allow), (vi r.pfx.addr), (vi r.pfx.bits), (vi r.prt.lo), (vi r.prt.hi)].toArray)] w (Value.bool (gM r)) := by
 have hF := Is.refl (gM r)
 refine enter func109 ntmps109 (h := ?_)
 refine Z2 ?_
 refine Aj Ae oT (k := fun r1 hr1 => ?_)
 refine Oy ?_
 refine Ad (Al Rr) (k := ?_)
 refine Ad (Al pT) (k := ?_)
 refine Ad (Bq isAgg80 sizeOf80) (k := ?_)
 refine Co (Aa call166) (fun w1 hw1 => eE w1 (p := r.pfx)) (k := ?_)
 refine Cg ?_
 refine Cs 7 rfl (fun hq1 => ?_) (fun hq1 => ?_)
 rotate_left
 ·refine Ag 4 rfl ?_
  refine Lr ?_
  refine Ac results109 z1 (fun w1 hw1 => ?_)
  exact ⟨(rq (hF.f hq1)), hw1.ext_out⟩
 have hfhq1 := kS hq1
 refine An (Al Rr) (k := ?_)
 refine An (Al pU) (k := ?_)
 refine An (Bq isAgg82 sizeOf82) (k := ?_)
 refine Mv (Aa call167) (fun w1 hw1 => eF w1 (p := r.prt)) (k := ?_)
 refine Ry ?_
 refine Ac results109 z1 (fun w1 hw1 => ?_)
 exact ⟨(rq (hF.t hq1)), hw1.ext_out⟩

theorem kZ (w : World) {r : Ib} {t : Bp} : Gz Tryz.prog 170 [(Value.agg [(Value.bool r.allow), (vi r.pfx.addr), (vi r.pfx.bits), (vi r.prt.lo), (vi r.prt.hi)].toArray), (Value.agg [(vi t.addr), (vi t.port)].toArray)] w (Value.bool (Fl r t)) := by
 have hF := Is.refl (Fl r t)
 refine enter func170 ntmps170 (h := ?_)
 refine Z2 ?_
 refine Aj Ae oT (k := fun r1 hr1 => ?_)
 refine Aj Ae hY (k := fun r2 hr2 => ?_)
 refine Oy ?_
 refine Ad (Bq isAgg199 sizeOf199) (k := ?_)
 refine Co (Aa call109) (fun w1 hw1 => eH w1 (r := r)) (k := ?_)
 refine Cg ?_
 refine Cs 7 rfl (fun hq1 => ?_) (fun hq1 => ?_)
 rotate_left
 ·refine Ag 6 rfl ?_
  refine Te ?_
  refine Ag 6 rfl ?_
  refine Lr ?_
  refine Ac results170 z1 (fun w1 hw1 => ?_)
  exact ⟨(rq (hF.f hq1)), hw1.ext_out⟩
 refine An (Al Rr) (k := ?_)
 refine An (Al pT) (k := ?_)
 refine An (Bq isAgg80 sizeOf80) (k := ?_)
 refine An (Al pS) (k := ?_)
 refine Qv ?_
 refine Mv (Aa call221) (fun w1 hw1 => O7 w1 (p := r.pfx) (a := t.addr)) (k := ?_)
 refine Qq ?_
 refine Cs 15 rfl (fun hq2 => ?_) (fun hq2 => ?_)
 rotate_left
 ·refine Ag 6 rfl ?_
  refine Lr ?_
  refine Ac results170 z1 (fun w1 hw1 => ?_)
  exact ⟨(rq ((hF.t hq1).f hq2)), hw1.ext_out⟩
 refine An (Al Rr) (k := ?_)
 refine An (Al pU) (k := ?_)
 refine An (Bq isAgg82 sizeOf82) (k := ?_)
 refine An (Al Zg) (k := ?_)
 refine Qv ?_
 refine Mv (Aa call222) (fun w1 hw1 => O8 w1 (p := r.prt) (n_ := t.port)) (k := ?_)
 refine Ry ?_
 refine Ac results170 z1 (fun w1 hw1 => ?_)
 exact ⟨(rq ((hF.t hq1).t hq2)), hw1.ext_out⟩

theorem Xn (w : World) {l_a : Option Addr} {l_c : Nat} {l : List Ib} (h_l : Sl w Nk 5 l_a l) (n_l : l.length ≤ 1000) : Gz Tryz.prog 56 [(vs l_a l.length l_c)] w (Value.bool (Hv l)) := by
 have hF := Is.refl (Hv l)
 refine enter func56 ntmps56 (h := ?_)
 refine Mq ?_
 refine Ad (Dg runUnderlying47) (k := ?_)
 refine rO ?_
 refine Aw 6 rfl (fun hq1 => ?_) (fun hq1 => ?_)
 rotate_left
 ·refine Ag 3 rfl ?_
  refine Lr ?_
  refine Ac results56 z1 (fun w1 hw1 => ?_)
  exact ⟨(rq (hF.neg hq1)), hw1.ext_out⟩
 refine Ep ?_
 refine dL Ae (Dd (l := [_]) runUnderlying262 sizeOf197 zeroValue197) (k := fun r1 hr1 => ?_)
 refine Uu (args := [_, _]) (Aa call108) func108 ntmps108 ?_
 refine Qj ?_
 refine Ad (Dg runUnderlying47) (k := ?_)
 refine Lt ?_
 refine Ka (σ1 := Nat) (σ2 := Nat) (fun n_2 x_1 => ((r1, oc [(Value.func (.func 109) [].toArray [].toArray)] 197) :: [])) (fun n_2 x_1 => [(1, (vs (some ⟨r1, 0, none⟩) 1 1)), (4, (Value.bool false)), (9, (vs l_a l.length l_c)), (10, (vi ((l.length : Nat) : Int))), (11, (vi ((x_1 : Nat) : Int)))]) (fun n_2 x_1 => l.length - x_1 < n_2 ∧ Is (Nj l (l.length + 1) 0) (Nj l n_2 x_1) ∧ x_1 ≤ l.length) (fun n_2 x_1 => n_2) (l.length + 1) 0 ?_ se (List.Perm.refl _) ?_
 ·exact ⟨Nat.lt_succ_self _, Is.refl _, Qc⟩
 ·rintro (_ | n_2) x_1 ⟨hm4, hF3, hi5⟩
  ·omega
  refine Tx ?_
  refine Bd rfl (fun hq2 => ?_) (fun hq2 => ?_)
  rotate_left
  ·refine Cu ?_
   refine Kg ?_
   refine Yc ?_
   refine Av results108 z1 ?_
   refine Ry ?_
   refine Ac results56 z1 (fun w1 hw1 => ?_)
   exact ⟨(rq ((hF.pos hq1).ok1 (hF3.neg hq2))), hw1.ext_out⟩
  refine aA ?_
  refine Ad (Dl (n := l.length) runUnderlying47 sizeOf84 x_1 cF (gD Da) Lp) (k := ?_)
  refine Ad (Ht isAgg84 sizeOf84 x_1 cF (gD Da)) (k := ?_)
  refine Aj Ae (Bz (l := [_, _, _, _, _]) zeroValue84) (k := fun r2 hr2 => ?_)
  refine Eh (Bc (l' := [_, _, _, _, _]) sizeOf84) (k := ?_)
  refine Jm ?_
  refine Ad (Dg runUnderlying262) (k := ?_)
  refine Zx ?_
  refine Ad (Dy runUnderlying262 sizeOf197 0) (k := ?_)
  refine Ad (Bb isAgg197) (k := ?_)
  refine Mu ?_
  refine Ad (Bq isAgg84 sizeOf84) (k := ?_)
  refine Ad (Cf (cs := [_, _, _, _, _]) zeroValue199 oH) (k := ?_)
  refine Co (Aa call109) (fun w1 hw1 => eH w1 (r := (l.getD x_1 default))) (k := ?_)
  refine Oc ?_
  refine Dc rfl (fun hq3 => ?_) (fun hq3 => ?_)
  ·refine Bw ?_
   refine Dn ?_
   refine qN ?_
   refine Lw ?_
   refine Et ?_
   refine cX ?_
   refine Av results108 z1 ?_
   refine Ry ?_
   refine Ac results56 z1 (fun w1 hw1 => ?_)
   exact ⟨(rq ((hF.pos hq1).er1 ((hF3.pos hq2).t hq3))), hw1.ext_out⟩
  refine Br ?_
  refine Ya ?_
  refine Z53 ?_
  refine iK ?_
  refine Dj _ (qa q0) ?_
  refine Cc _ (List.Sublist.cons_cons _ Mt) ?_
  exact Hw n_2 (x_1 + 1) ⟨by omega, ((hF3.pos hq2).f hq3), z8⟩ (Nat.lt_succ_self _) se (List.Perm.refl _)

theorem gV (w : World) {l_a : Option Addr} {l_c : Nat} {ea0 : Addr} {ea1 : Addr} {ea2 : Addr} {ea3 : Addr} {ea4 : Addr} {ea5 : Addr} {ea6 : Addr} {ea7 : Addr} {ea8 : Addr} {ea9 : Addr} {ea10 : Addr} {ea11 : Addr} {ea12 : Addr} {ea13 : Addr} {ea14 : Addr} {ea15 : Addr} {l : List Ib} {t : Bp} (h_l : Sl w Nk 5 l_a l) (n_l : l.length ≤ 1000) (hG : Gl w) (hE : Er w ea0 ea1 ea2 ea3 ea4 ea5 ea6 ea7 ea8 ea9 ea10 ea11 ea12 ea13 ea14 ea15) : Gz Tryz.prog 19 [(vs l_a l.length l_c), (Value.agg [(vi t.addr), (vi t.port)].toArray)] w (Value.tuple [(Value.bool ((Ey l t).1)), (vi ((Ey l t).2.1)), (vi ((Ey l t).2.2))].toArray) := by
 have hF := Is.refl (Ey l t)
 refine enter func19 ntmps19 (h := ?_)
 refine Z2 ?_
 refine Aj Ae hY (k := fun r1 hr1 => ?_)
 refine lQ ?_
 refine Hc ?_
 refine Co (Aa call56) (fun w1 hw1 => Xn w1 (l := l) (h_l := (Ch.of_base h_l) w1 hw1) (n_l := Nm)) (k := ?_)
 refine Oc ?_
 refine Dc rfl (fun hq1 => ?_) (fun hq1 => ?_)
 ·refine Bw ?_
  refine Dn ?_
  obtain ⟨Thgl2, fhgl2, hgl2⟩ := hE.v4
  refine mQ ?_
  refine Bh (args := [_]) (Aa call57) func57 ntmps57 ?_
  refine cW ?_
  obtain ⟨Thgl3, fhgl3, hgl3⟩ := hE.v4
  refine jF ?_
  refine Co (args := [(Value.iface 400 (.pointer (some ea4))), (Value.iface 400 (.pointer (some ea4)))]) (Aa call81) (fun w1 hw1 => Hl w1) (k := ?_)
  refine Z1 ?_
  refine Ub ?_
  refine Av results57 z1 ?_
  refine Hr ?_
  refine Ks ?_
  refine Ac results19 (Bk.tmp rfl (Bk.tmp rfl z1)) (fun w1 hw1 => ?_)
  exact ⟨(rq (hF.t hq1)), hw1.ext_out⟩
 refine cQ ?_
 refine H7 ?_
 refine Bh (args := [_]) (Aa call58) func58 ntmps58 ?_
 refine Z2 ?_
 refine Aj Ae hY (k := fun r2 hr2 => ?_)
 refine Jj ?_
 refine H7 ?_
 refine Co (Aa call54) (fun w1 hw1 => eG w1 (t := t) (hG := hG.ext hw1.ext_out) (hE := hE.ext hw1.ext_out)) (k := ?_)
 refine Qt ?_
 refine Mu ?_
 refine mL ?_
 refine Bd rfl (fun hq4 => ?_) (fun hq4 => ?_)
 ·refine Bw ?_
  refine Dn ?_
  obtain ⟨Thgl5, fhgl5, hgl5⟩ := hE.v10
  refine rX ?_
  refine Qr ?_
  refine Av results58 z1 ?_
  refine Mu ?_
  refine Ad (aY (u := (Value.iface 400 (.pointer (some ea10)))) (v := Value.nilIface) (b := true) (fun w => by kernel_rfl)) (k := ?_)
  refine Z0 ?_
  refine eV ?_
  refine Bh (args := [_]) (Aa call57) func57 ntmps57 ?_
  refine cW ?_
  obtain ⟨Thgl6, fhgl6, hgl6⟩ := hE.v4
  refine jG ?_
  refine Co (args := [(Value.iface 400 (.pointer (some ea10))), (Value.iface 400 (.pointer (some ea4)))]) (Aa call81) (fun w1 hw1 => Hi w1 hE.n10_4 (hE.ext hw1.ext_out).b10 (hE.ext hw1.ext_out).b4) (k := ?_)
  refine Z1 ?_
  refine Qu ?_
  obtain ⟨Thgl7, fhgl7, hgl7⟩ := hE.v8
  refine mP ?_
  refine Co (args := [(Value.iface 400 (.pointer (some ea10))), (Value.iface 400 (.pointer (some ea8)))]) (Aa call81) (fun w1 hw1 => Hi w1 hE.n10_8 (hE.ext hw1.ext_out).b10 (hE.ext hw1.ext_out).b8) (k := ?_)
  refine Z1 ?_
  refine Qu ?_
  obtain ⟨Thgl8, fhgl8, hgl8⟩ := hE.v9
  refine rW ?_
  refine Co (args := [(Value.iface 400 (.pointer (some ea10))), (Value.iface 400 (.pointer (some ea9)))]) (Aa call81) (fun w1 hw1 => Hi w1 hE.n10_9 (hE.ext hw1.ext_out).b10 (hE.ext hw1.ext_out).b9) (k := ?_)
  refine Z1 ?_
  refine Qu ?_
  obtain ⟨Thgl9, fhgl9, hgl9⟩ := hE.v10
  refine Ad (Dp isAgg93 hgl9) (k := ?_)
  refine Co (args := [(Value.iface 400 (.pointer (some ea10))), (Value.iface 400 (.pointer (some ea10)))]) (Aa call81) (fun w1 hw1 => Hl w1) (k := ?_)
  refine Z1 ?_
  refine Ub ?_
  refine Av results57 z1 ?_
  refine Hr ?_
  refine Ks ?_
  refine Ac results19 (Bk.tmp rfl (Bk.tmp rfl z1)) (fun w1 hw1 => ?_)
  exact ⟨(rq ((hF.f hq1).pos hq4)), hw1.ext_out⟩
 refine Qd ?_
 refine Yc ?_
 refine Av results58 z1 ?_
 refine Mu ?_
 refine uS ?_
 refine Pa ?_
 refine Z3 ?_
 refine mS ?_
 refine Ut (args := [_, _]) (Aa call59) func59 ntmps59 ?_
 refine Z2 ?_
 refine Aj Ae hY (k := fun r3 hr3 => ?_)
 refine Oy ?_
 refine Ad (Cf (cs := [_]) zeroValue203 AF3) (k := ?_)
 refine Aj Ae Qh (k := fun r4 hr4 => ?_)
 refine Aj Ae (Bz (l := [_]) zeroValue200) (k := fun r5 hr5 => ?_)
 refine Eh (Bc (l' := [_]) sizeOf200) (k := ?_)
 refine Jk ?_
 refine Z3 ?_
 refine mS ?_
 refine Bh (args := [_, _]) (Aa call110) func110 ntmps110 ?_
 refine Z2 ?_
 refine Aj Ae Qh (k := fun r6 hr6 => ?_)
 refine Aj Ae hY (k := fun r7 hr7 => ?_)
 refine Uc ?_
 refine Av results110 z1 ?_
 refine Kt ?_
 refine sH Ae rfl call168 func168 ntmps168 (fun l8 rD8 rr8 hl8 => ?_)
 refine Z2 ?_
 refine Aj Ae Qh (k := fun r9 hr9 => ?_)
 refine Z0 ?_
 refine Ye ?_
 refine Ad (Bb isAgg47) (k := ?_)
 refine Bh (args := [_]) (Aa call169) func169 ntmps169 ?_
 refine Z2 ?_
 refine Aj Ae Qh (k := fun r10 hr10 => ?_)
 refine Uc ?_
 refine Av results169 z1 ?_
 refine Kt ?_
 refine Fc Ae rfl call220 func220 ntmps220 (fun l11 rD11 rr11 hl11 => ?_)
 refine Z2 ?_
 refine Ad (Bb isAgg47) (k := ?_)
 refine Ad (Dg runUnderlying47) (k := ?_)
 refine Sq ?_
 refine Z1 ?_
 refine Fm ?_
 refine Na (σ1 := Nat) (σ2 := Int) (σ3 := List Int) (σ4 := Option Addr) (σ5 := Nat) (σ6 := Am) (fun n_3 i_1 x_2 x_2a x_2c x_2B => (x_2B ++ ((l11, Cb rr11 .ready none) :: ((rD11, Obj.deferred (some [])) :: ((r10, oc [(vs l_a l.length l_c)] 47) :: ((r9, oc [(Value.func (.yield l8) [].toArray [].toArray)] 133) :: ((l8, Cb rr8 .ready none) :: ((rD8, Obj.deferred (some [])) :: ((r7, oc [(vi t.addr), (vi t.port)] 41) :: ((r6, oc [(vs l_a l.length l_c)] 47) :: ((r5, oc [(Value.pointer (some ⟨r4, 0, none⟩))] 200) :: ((r4, oc [(vs x_2a x_2.length x_2c)] 203) :: ((r3, oc [(vi t.addr), (vi t.port)] 41) :: ((r2, oc [(vi t.addr), (vi t.port)] 41) :: ((r1, oc [(vi t.addr), (vi t.port)] 41) :: []))))))))))))))) (fun n_3 i_1 x_2 x_2a x_2c x_2B => [(0, (Value.func (.yield l11) [].toArray [].toArray)), (1, (Value.pointer (some ⟨r10, 0, none⟩))), (3, (vi i_1))]) (fun n_3 i_1 x_2 x_2a x_2c x_2B => (i_1 + 1).toNat < n_3 ∧ Is (Fz l t (((((l.length : Nat) : Int) - 1) + 1).toNat + 1) (((l.length : Nat) : Int) - 1) []) (Fz l t n_3 i_1 x_2) ∧ Bi eI 1 3 x_2a x_2c x_2B x_2 ∧ (-1 ≤ i_1 ∧ i_1 < l.length) ∧ x_2.length + i_1 + 1 ≤ l.length ∧ (∀ z ∈ x_2, 0 ≤ z ∧ z < l.length)) (fun n_3 i_1 x_2 x_2a x_2c x_2B => n_3) (((((l.length : Nat) : Int) - 1) + 1).toNat + 1) (((l.length : Nat) : Int) - 1) ([]) none 0 ([]) ?_ se (List.Perm.refl _) ?_
 ·exact ⟨Nat.lt_succ_self _, Is.refl _, Bi.nil, (by first | omega | (simp; done) | (simp; omega) | (intro z hz; cases hz)), (by first | omega | (simp; done) | (simp; omega) | (intro z hz; cases hz)), (by first | omega | (simp; done) | (simp; omega) | (intro z hz; cases hz))⟩
 ·rintro (_ | n_3) i_1 x_2 x_2a x_2c x_2B ⟨hm5, hF4, hx_2, hi6, hi7, hi8⟩
  ·omega
  refine E4 ?_
  refine Bd rfl (fun hq10 => ?_) (fun hq10 => ?_)
  rotate_left
  ·refine Cu ?_
   refine Z53 ?_
   refine Gg (.inr rfl) results220 (qc q0) ?_
   refine Eu ?_
   refine jV ?_
   refine M3 [rD11] (qa (qc q0)) (.inr rfl) results168 (qa (qc (qa (qa q0)))) ?_
   refine A8 ?_
   refine Ez ?_
   refine Z2 ?_
   refine Ad (Bb isAgg200) (k := ?_)
   refine J2 ?_
   refine Ad (Bb isAgg201) (k := ?_)
   refine Bh (args := [_]) (Aa call112) func112 ntmps112 ?_
   refine Mq ?_
   refine Ad (Dg runUnderlying201) (k := ?_)
   refine Z5 ?_
   refine Av results112 z1 ?_
   refine cO ?_
   refine Bd rfl (fun hq14 => ?_) (fun hq14 => ?_)
   ·refine Bw ?_
    refine Dn ?_
    refine Ad (Cf (cs := []) zeroValue207 AF4) (k := ?_)
    refine Ad (dW underlying207) (k := ?_)
    refine Qr ?_
    refine Ix [rD8] (qa (qa (qc (qa (qa q0))))) results59 z1 ?_
    refine Bh (args := [_]) (Oh z6 (fun w1 hw1 => Mr _ w1) call297) func297 ntmps297 ?_
    refine Z2 ?_
    refine Aj Ae (Jf (l := [])) (k := fun r14 hr14 => ?_)
    refine Hr ?_
    refine Oy ?_
    refine Zw ?_
    refine Av results297 (Bk.tmp rfl z1) ?_
    refine Qt ?_
    refine Ew ?_
    refine lQ ?_
    refine Z5 ?_
    refine Ac results19 (Bk.tmp rfl (Bk.tmp rfl z1)) (fun w1 hw1 => ?_)
    exact ⟨(rq ((((hF.f hq1).neg hq4).rn2 (hF4.neg hq10)).pos hq14)), hw1.ext_out⟩
   refine Wd ?_
   refine Ad (Bb isAgg200) (k := ?_)
   refine J2 ?_
   refine Ad (Bb isAgg201) (k := ?_)
   refine Ad (Dl (n := x_2.length) runUnderlying201 sizeOf3 0 (hx_2.slj Au) (gD Da) Lp) (k := ?_)
   refine Ad (Cr isAgg3 0 0 (hx_2.slj Au) (gD Da)) (k := ?_)
   refine Ew ?_
   have hat : 0 ≤ x_2.getD 0 default ∧ x_2.getD 0 default < (l.length : Int) := yZ Zn z8
   refine Ad (Dl (n := l.length) runUnderlying47 sizeOf84 ((x_2.getD 0 default).toNat) cF (gD Da) Lp) (k := ?_)
   refine Ad (Ht isAgg84 sizeOf84 ((x_2.getD 0 default).toNat) cF (gD Da)) (k := ?_)
   refine Ad (Cf (cs := [_, _, _, _, _]) zeroValue199 oH) (k := ?_)
   refine Cg ?_
   refine Ad (Cf (cs := [_, _, _, _, _, _]) zeroValue209 AF5) (k := ?_)
   refine Ad (dW underlying209) (k := ?_)
   refine Z5 ?_
   refine Ix [rD8] (qa (qa (qc (qa (qa q0))))) results59 z1 ?_
   refine Bh (args := [_]) (Oh z6 (fun w1 hw1 => Ms _ w1) call298) func298 ntmps298 ?_
   refine Z2 ?_
   refine Aj Ae tY (k := fun r15 hr15 => ?_)
   refine Hr ?_
   refine Jj ?_
   refine Dw mixed 8 [(true, 0), (true, 1), (true, 2), (true, 3), (true, 4), (true, 5), (true, 6), (true, 7)] z6 ?_
   refine Ay (Al yX) (k := ?_)
   refine Ay (Al Rr) (k := ?_)
   refine Ay (Al O9) (k := ?_)
   refine Ay (Bb isAgg4) (k := ?_)
   refine Ay (Al yY) (k := ?_)
   refine Tj ?_
   refine Ud ?_
   refine eT ?_
   refine Av results298 (Bk.tmp rfl z1) ?_
   refine Qt ?_
   refine Ew ?_
   refine lQ ?_
   refine Z5 ?_
   refine Ac results19 (Bk.tmp rfl (Bk.tmp rfl z1)) (fun w1 hw1 => ?_)
   exact ⟨(rq ((((hF.f hq1).neg hq4).rn2 (hF4.neg hq10)).neg hq14)), hw1.ext_out⟩
  refine Qd ?_
  refine qM ?_
  refine Qp ?_
  refine Ad (Bb isAgg47) (k := ?_)
  refine Cg ?_
  refine Ad (Dl (n := l.length) runUnderlying47 sizeOf84 i_1.toNat cF (gD Da) Lp) (k := ?_)
  refine Ad (Ht isAgg84 sizeOf84 i_1.toNat cF (gD Da)) (k := ?_)
  refine Jt (vs := [(vi i_1), (Value.agg [(Value.bool ((l.getD i_1.toNat default).allow)), (vi ((l.getD i_1.toNat default).pfx.addr)), (vi ((l.getD i_1.toNat default).pfx.bits)), (vi ((l.getD i_1.toNat default).prt.lo)), (vi ((l.getD i_1.toNat default).prt.hi))].toArray)]) hl11 (qc q0) Dh ?_
  refine Z2 ?_
  refine Z1 ?_
  refine Dn ?_
  refine Aj Ae (Bz (l := [_, _, _, _, _]) zeroValue84) (k := fun r12 hr12 => ?_)
  refine Eh (Bc (l' := [_, _, _, _, _]) sizeOf84) (k := ?_)
  refine Ef ?_
  refine uH ?_
  refine Z2 ?_
  refine Ad (Bq isAgg84 sizeOf84) (k := ?_)
  refine Ad (Cf (cs := [_, _, _, _, _]) zeroValue199 oH) (k := ?_)
  refine mS ?_
  refine Co (Aa call170) (fun w1 hw1 => kZ w1 (r := (l.getD i_1.toNat default)) (t := t)) (k := ?_)
  refine Cg ?_
  refine Cs 14 rfl (fun hq11 => ?_) (fun hq11 => ?_)
  rotate_left
  ·refine Ag 4 rfl ?_
   refine Rx ?_
   refine Tw ?_
   refine Eu ?_
   refine Ex q0 ?_
   refine Oc ?_
   refine Tw ?_
   refine mA ?_
   refine Sq ?_
   refine Mo ?_
   refine Dj _ ((((((((((((((qa (qa (qc (qa (qa (qa (qa (qa (qa (qa (qa (qa (qa (qa q0)))))))))))))).trans (qa (qa (qa (qc (qa (qa (qa (qa (qa (qa (qa (qa (qa (qa q0))))))))))))))).trans (qa (qa (qa (qa (qc (qa (qa (qa (qa (qa (qa (qa (qa (qa q0))))))))))))))).trans (qa (qa (qa (qa (qa (qc (qa (qa (qa (qa (qa (qa (qa (qa q0))))))))))))))).trans (qa (qa (qa (qa (qa (qa (qc (qa (qa (qa (qa (qa (qa (qa q0))))))))))))))).trans (qa (qa (qa (qa (qa (qa (qa (qc (qa (qa (qa (qa (qa (qa q0))))))))))))))).trans (qa (qa (qa (qa (qa (qa (qa (qa (qc (qa (qa (qa (qa (qa q0))))))))))))))).trans (qa (qa (qa (qa (qa (qa (qa (qa (qa (qc (qa (qa (qa (qa q0))))))))))))))).trans (qa (qa (qa (qa (qa (qa (qa (qa (qa (qa (qc (qa (qa (qa q0))))))))))))))).trans (qa (qa (qa (qa (qa (qa (qa (qa (qa (qa (qa (qc (qa (qa q0))))))))))))))).trans (qa (qa (qa (qa (qa (qa (qa (qa (qa (qa (qa (qa (qc (qa q0))))))))))))))).trans (qa (qa (qa (qa (qa (qa (qa (qa (qa (qa (qa (qa (qa (qc q0))))))))))))))).trans (qa (qa (qa (qa (qa (qa (qa (qa (qa (qa (qa (qa q0))))))))))))).trans (qb (qb (qb (qb (qb (qb (qb (qb (qb (qb (qb (qb (qb (qb q0))))))))))))))) ?_
   refine AN2 ?_
   exact Hx n_3 (i_1 - 1) x_2 x_2a x_2c x_2B ⟨by omega, ((hF4.pos hq10).f hq11), hx_2, z8, z77, Zn⟩ (Nat.lt_succ_self _) se (List.Perm.refl _)
  refine An (Bb isAgg133) (k := ?_)
  refine Ep ?_
  refine Dv (vs := [(vi i_1)]) hl8 (qa (qa (qc (qa (qa (qa q0)))))) Dh ?_
  refine cR ?_
  refine Dn ?_
  refine Ad (Bb isAgg200) (k := ?_)
  refine Ad (dW underlying200) (k := ?_)
  refine Cg ?_
  refine Ad (dW underlying3) (k := ?_)
  refine Bh (args := [_, _]) (Aa call111) func111 ntmps111 ?_
  refine Qp ?_
  refine Bh (args := [_, _]) (Oh z6 (fun w1 hw1 => oF _ w1) call294) func294 ntmps294 ?_
  refine Z3 ?_
  refine Ad (nR underlying3) (k := ?_)
  refine Qt ?_
  refine Mu ?_
  refine Z0 ?_
  refine Np rfl ?_
  refine Sv ?_
  refine J2 ?_
  refine Ad (Bb isAgg201) (k := ?_)
  refine Cg ?_
  refine Aj Ae (Dd (l := [_]) runUnderlying201 sizeOf3 zeroValue3) (k := fun r13 hr13 => ?_)
  refine Ar (x_2 ++ ([i_1] : List Int)) rfl Ev underlying201 Au hx_2 (qb (qb (qb (qb q0)))) (Ch.lit (xs := ([i_1] : List Int)) Au) ⟨by omega, by omega⟩ (n := x_2.length) (m := 1) (k := fun ax1 cx1 Bx1 hox1 => ?_)
  have hal1 : (x_2 ++ ([i_1] : List Int)).length = x_2.length + 1 := by first | rfl | exact List.length_append | simp
  refine J2 ?_
  refine Eh (Bc (l' := [_]) sizeOf201) (k := ?_)
  refine Ef ?_
  refine Cx results294 Bk.nil ?_
  refine Z0 ?_
  refine Sv ?_
  refine Bh (args := [_]) (Oh z6 (fun w1 hw1 => tD r4 0 (u := (vs ax1 ((x_2 ++ ([i_1] : List Int)).length) cx1)) w1 (hw1.cell (k := 0) me rfl)) call112) func112 ntmps112 ?_
  refine Mq ?_
  refine Ad (Dg runUnderlying201) (k := ?_)
  refine Z5 ?_
  refine Av results112 z1 ?_
  refine Sq ?_
  refine Bh (args := [_, _]) (Aa call171) func171 ntmps171 ?_
  refine Fm ?_
  refine Na (σ1 := Nat) (σ2 := Int) (σ3 := List Int) (σ4 := Option Addr) (σ5 := Nat) (σ6 := Am) (fun n_11 j_9 x_10 x_10a x_10c x_10B => (x_10B ++ ((r13, oc [(vi i_1)] 3) :: ((l8, Cb rr8 .busy none) :: ((l11, Cb rr11 .busy none) :: ((r12, oc [(Value.bool ((l.getD i_1.toNat default).allow)), (vi ((l.getD i_1.toNat default).pfx.addr)), (vi ((l.getD i_1.toNat default).pfx.bits)), (vi ((l.getD i_1.toNat default).prt.lo)), (vi ((l.getD i_1.toNat default).prt.hi))] 84) :: ((rD11, Obj.deferred (some [])) :: ((r10, oc [(vs l_a l.length l_c)] 47) :: ((r9, oc [(Value.func (.yield l8) [].toArray [].toArray)] 133) :: ((rD8, Obj.deferred (some [])) :: ((r7, oc [(vi t.addr), (vi t.port)] 41) :: ((r6, oc [(vs l_a l.length l_c)] 47) :: ((r5, oc [(Value.pointer (some ⟨r4, 0, none⟩))] 200) :: ((r4, oc [(vs x_10a x_10.length x_10c)] 203) :: ((r3, oc [(vi t.addr), (vi t.port)] 41) :: ((r2, oc [(vi t.addr), (vi t.port)] 41) :: ((r1, oc [(vi t.addr), (vi t.port)] 41) :: []))))))))))))))))) (fun n_11 j_9 x_10 x_10a x_10c x_10B => [(0, (Value.iface 200 (Value.pointer (some ⟨r4, 0, none⟩)))), (1, (vi j_9))]) (fun n_11 j_9 x_10 x_10a x_10c x_10B => j_9.toNat < n_11 ∧ Is (Fy l t i_1 x_2 ((((((x_2 ++ ([i_1] : List Int)).length) : Nat) : Int) - 1).toNat + 1) (((((x_2 ++ ([i_1] : List Int)).length) : Nat) : Int) - 1) (x_2 ++ ([i_1] : List Int))) (Fy l t i_1 x_2 n_11 j_9 x_10) ∧ Bi eI 1 3 x_10a x_10c x_10B x_10 ∧ (0 ≤ j_9 ∧ j_9 < x_10.length) ∧ x_10.length = (x_2 ++ ([i_1] : List Int)).length ∧ (∀ z ∈ x_10, 0 ≤ z ∧ z < l.length)) (fun n_11 j_9 x_10 x_10a x_10c x_10B => n_11) ((((((x_2 ++ ([i_1] : List Int)).length) : Nat) : Int) - 1).toNat + 1) (((((x_2 ++ ([i_1] : List Int)).length) : Nat) : Int) - 1) (x_2 ++ ([i_1] : List Int)) ax1 cx1 Bx1 ?_ se (List.Perm.refl _) ?_
  ·exact ⟨Nat.lt_succ_self _, Is.refl _, hox1, (by first | omega | (simp only [List.length_append, List.length_cons, List.length_nil]; omega) | rfl | assumption | exact bN Zn z8), (by first | omega | (simp only [List.length_append, List.length_cons, List.length_nil]; omega) | rfl | assumption | exact bN Zn z8), (by first | omega | (simp only [List.length_append, List.length_cons, List.length_nil]; omega) | rfl | assumption | exact bN Zn z8)⟩
  ·rintro (_ | n_11) j_9 x_10 x_10a x_10c x_10B ⟨hm13, hF12, hx_10, hi14, hi15, hi16⟩
   ·omega
   refine Fm ?_
   refine Z3 ?_
   refine Sq ?_
   refine Ad AD8 (k := ?_)
   refine Jj ?_
   refine Qp ?_
   refine Ad Gw (k := ?_)
   refine Cg ?_
   refine Aw 11 rfl (fun hq12 => ?_) (fun hq12 => ?_)
   ·refine Ag 5 rfl ?_
    refine B0 ?_
    refine Np rfl ?_
    refine Cu ?_
    refine mG ?_
    refine Z34 ?_
    refine Cx results171 Bk.nil ?_
    refine Ef ?_
    refine Cx results111 Bk.nil ?_
    refine Ef ?_
    refine uR ?_
    refine Tw ?_
    refine Eu ?_
    refine Ex (qa (qc (qa q0))) ?_
    refine Oc ?_
    refine Tw ?_
    refine mA ?_
    refine Sq ?_
    refine Mo ?_
    refine Z78 ?_
    exact Hx n_3 (i_1 - 1) x_10 x_10a x_10c x_10B ⟨by omega, (((hF4.pos hq10).t hq11).rn2 (hF12.pos hq12)), hx_10, z8, z77, Zn⟩ (Nat.lt_succ_self _) se (List.Perm.refl _)
   refine Oz ?_
   refine Ep ?_
   refine Uu (args := [_, _, _]) (Oh z6 (fun w1 hw1 => oE r4 0 (u := (vs x_10a x_10.length x_10c)) w1 (hw1.cell (k := 0) me rfl)) call293) func293 ntmps293 ?_
   refine Z2 ?_
   refine Jj ?_
   refine Dw mixed 10 [(true, 0), (true, 1), (true, 2), (true, 3), (true, 4), (true, 5), (true, 6), (true, 7), (true, 8), (true, 9)] z6 ?_
   refine Mp ?_
   refine Ay (Dl (n := x_10.length) runUnderlying201 sizeOf3 j_9.toNat (hx_10.slj Au) (gD Da) Lp) (k := ?_)
   refine Ay (Cr isAgg3 j_9.toNat 0 (hx_10.slj Au) (gD Da)) (k := ?_)
   refine Mp ?_
   refine Ay (Dl (n := x_10.length) runUnderlying201 sizeOf3 ((j_9 - 1).toNat / 2) (hx_10.slj Au) (gD Da) Lp) (k := ?_)
   refine Ay (Cr isAgg3 ((j_9 - 1).toNat / 2) 0 (hx_10.slj Au) (gD Da)) (k := ?_)
   refine Ay Mx (k := ?_)
   refine eT ?_
   refine Av results293 z1 ?_
   refine An aK (k := ?_)
   refine Rx ?_
   refine Bd rfl (fun hq13 => ?_) (fun hq13 => ?_)
   rotate_left
   ·refine Br ?_
    refine Gv ?_
    refine Qp ?_
    refine Cg ?_
    refine Pj (args := [(vs x_10a x_10.length x_10c), (vi ((((j_9 - 1).toNat / 2) : Nat) : Int)), (vi j_9)]) (Oh z6 (fun w1 hw1 => oG r4 0 (u := (vs x_10a x_10.length x_10c)) w1 (hw1.cell (k := 0) me rfl)) call296) (fun w1 hw1 => AF6 w1 hx_10 (fun p hp => hw1.own p (by first | exact hp | (simp [hp]; done))) (i := ((((j_9 - 1).toNat / 2) : Nat) : Int)) (j := j_9) Da Da z8) (k := ?_)
    rintro w1_1 e1_1 w2_1 hw1_1 ⟨B1_1, he_1, hT_1, ho_1⟩
    refine ⟨_, (B1_1 ++ ((r13, oc [(vi i_1)] 3) :: ((l8, Cb rr8 .busy none) :: ((l11, Cb rr11 .busy none) :: ((r12, oc [(Value.bool ((l.getD i_1.toNat default).allow)), (vi ((l.getD i_1.toNat default).pfx.addr)), (vi ((l.getD i_1.toNat default).pfx.bits)), (vi ((l.getD i_1.toNat default).prt.lo)), (vi ((l.getD i_1.toNat default).prt.hi))] 84) :: ((rD11, Obj.deferred (some [])) :: ((r10, oc [(vs l_a l.length l_c)] 47) :: ((r9, oc [(Value.func (.yield l8) [].toArray [].toArray)] 133) :: ((rD8, Obj.deferred (some [])) :: ((r7, oc [(vi t.addr), (vi t.port)] 41) :: ((r6, oc [(vs l_a l.length l_c)] 47) :: ((r5, oc [(Value.pointer (some ⟨r4, 0, none⟩))] 200) :: ((r4, oc [(vs x_10a x_10.length x_10c)] 203) :: ((r3, oc [(vi t.addr), (vi t.port)] 41) :: ((r2, oc [(vi t.addr), (vi t.port)] 41) :: ((r1, oc [(vi t.addr), (vi t.port)] 41) :: [])))))))))))))))), he_1, (hw1_1.perm q0).tr hT_1, ?_⟩
    refine Fq (L' := (B1_1 ++ ((r13, oc [(vi i_1)] 3) :: ((l8, Cb rr8 .busy none) :: ((l11, Cb rr11 .busy none) :: ((r12, oc [(Value.bool ((l.getD i_1.toNat default).allow)), (vi ((l.getD i_1.toNat default).pfx.addr)), (vi ((l.getD i_1.toNat default).pfx.bits)), (vi ((l.getD i_1.toNat default).prt.lo)), (vi ((l.getD i_1.toNat default).prt.hi))] 84) :: ((rD11, Obj.deferred (some [])) :: ((r10, oc [(vs l_a l.length l_c)] 47) :: ((r9, oc [(Value.func (.yield l8) [].toArray [].toArray)] 133) :: ((rD8, Obj.deferred (some [])) :: ((r7, oc [(vi t.addr), (vi t.port)] 41) :: ((r6, oc [(vs l_a l.length l_c)] 47) :: ((r5, oc [(Value.pointer (some ⟨r4, 0, none⟩))] 200) :: ((r4, oc [(vs x_10a (((x_10.set ((((j_9 - 1).toNat / 2) : Nat) : Int).toNat (x_10.getD j_9.toNat default)).set j_9.toNat (x_10.getD ((((j_9 - 1).toNat / 2) : Nat) : Int).toNat default)).length) x_10c)] 203) :: ((r3, oc [(vi t.addr), (vi t.port)] 41) :: ((r2, oc [(vi t.addr), (vi t.port)] 41) :: ((r1, oc [(vi t.addr), (vi t.port)] 41) :: []))))))))))))))))) (by simp only [List.length_set]) ?_
    refine Z0 ?_
    refine Lq ?_
    refine Mo ?_
    refine Eu ?_
    exact Hx n_11 ((((j_9 - 1).toNat / 2) : Nat) : Int) ((x_10.set ((((j_9 - 1).toNat / 2) : Nat) : Int).toNat (x_10.getD j_9.toNat default)).set j_9.toNat (x_10.getD ((((j_9 - 1).toNat / 2) : Nat) : Int).toNat default)) x_10a x_10c B1_1 ⟨by omega, ((hF12.neg hq12).neg hq13), ho_1, tW, (by first | assumption | (simp only [List.length_set]; assumption)), (by exact zA Zn z8 z8)⟩ (Nat.lt_succ_self _) se (List.Perm.refl _)
   refine Cu ?_
   refine mG ?_
   refine Z34 ?_
   refine Cx results171 Bk.nil ?_
   refine Ef ?_
   refine Cx results111 Bk.nil ?_
   refine Ef ?_
   refine uR ?_
   refine Tw ?_
   refine Eu ?_
   refine Ex (qa (qc (qa q0))) ?_
   refine Oc ?_
   refine Tw ?_
   refine mA ?_
   refine Sq ?_
   refine Mo ?_
   refine Z78 ?_
   exact Hx n_3 (i_1 - 1) x_10 x_10a x_10c x_10B ⟨by omega, (((hF4.pos hq10).t hq11).rn2 ((hF12.neg hq12).pos hq13)), hx_10, z8, z77, Zn⟩ (Nat.lt_succ_self _) se (List.Perm.refl _)

end Go.Proofs.YtdnjanhdnibkfaaGreatDoor.Jd

namespace Go.Proofs.YtdnjanhdnibkfaaGreatDoor.Jd
open Go.Proofs.Tryz
open Go.Proofs
open Go.RowKit (Below)
set_option maxRecDepth 100000
set_option maxHeartbeats 8000000
set_option linter.unusedVariables false
set_option linter.unusedSimpArgs false
def Jh (x : En) : List Value := [vi x.id, Value.string (bs x.key), vi x.frm, vi x.to]
theorem Gj : Dm Jh 4 := ⟨by omega, fun _ => rfl, fun _ => rfl⟩
theorem Ot : Ba Tryz.prog 112 0 0 := fun r k w => by simp [Instr.fieldAt, Instr.sureAddr, fieldPlace, Ao]
theorem lA : Ba Tryz.prog 112 1 1 := fun r k w => by simp [Instr.fieldAt, Instr.sureAddr, fieldPlace, Ao]
theorem bO : Ba Tryz.prog 112 2 2 := fun r k w => by simp [Instr.fieldAt, Instr.sureAddr, fieldPlace, Ao]
theorem bP : Ba Tryz.prog 112 3 3 := fun r k w => by simp [Instr.fieldAt, Instr.sureAddr, fieldPlace, Ao]
theorem Kq : Ba Tryz.prog 255 0 0 := fun r k w => by simp [Instr.fieldAt, Instr.sureAddr, fieldPlace, Ao]
theorem zB : Ej Tryz.prog 112 [(0, 1), (1, 1), (2, 1), (3, 1)] := ⟨_, fun w => runUnderlying112 w, fun w => by simp⟩
theorem AF7 : Ej Tryz.prog 255 [(0, 4)] := ⟨_, fun w => runUnderlying255 w, fun w => by simp⟩
theorem P0 (a0 b0 : Int) (a1 b1 : Ai) (a2 b2 : Int) (a3 b3 : Int) (n : Nat) (w : World) : (Op.equalIn (n + 2) 112 (Value.agg [vi a0, Value.string (bs a1), vi a2, vi a3].toArray) (Value.agg [vi b0, Value.string (bs b1), vi b2, vi b3].toArray)).run Tryz.prog w = .ok (decide (a0 = b0 ∧ a1 = b1 ∧ a2 = b2 ∧ a3 = b3)) w := by
 rw [show n + 2 = (n + 1) + 1 from rfl]
 unfold Op.equalIn
 simp [part, fU (P := Tryz.prog) (t := 3) n .i64 _ _ runUnderlying3, dT (P := Tryz.prog) (t := 9) n _ _ runUnderlying9]
 by_cases h0 : a0 = b0 <;> by_cases h1 : a1 = b1 <;> by_cases h2 : a2 = b2 <;> by_cases h3 : a3 = b3 <;> simp_all
theorem AF8 (x y : Operand) (a0 b0 : Int) (a1 b1 : Ai) (a2 b2 : Int) (a3 b3 : Int) (w : World) : (do eqGuard .neq 112 x y (Value.agg [vi a0, Value.string (bs a1), vi a2, vi a3].toArray) (Value.agg [vi b0, Value.string (bs b1), vi b2, vi b3].toArray); binOp .neq 112 (Value.agg [vi a0, Value.string (bs a1), vi a2, vi a3].toArray) (Value.agg [vi b0, Value.string (bs b1), vi b2, vi b3].toArray) : Sem Value).run Tryz.prog w = .ok (.bool (decide (¬ (a0 = b0 ∧ a1 = b1 ∧ a2 = b2 ∧ a3 = b3)))) w := by
 have h2 : (binOp .neq 112 (Value.agg [vi a0, Value.string (bs a1), vi a2, vi a3].toArray) (Value.agg [vi b0, Value.string (bs b1), vi b2, vi b3].toArray)).run Tryz.prog w = .ok (.bool (decide (¬ (a0 = b0 ∧ a1 = b1 ∧ a2 = b2 ∧ a3 = b3)))) w := by
  show (do pure (.bool (!(← Op.equal 112 _ _))) : Sem Value).run Tryz.prog w = _
  simp only [Sem.run_bind, Op.equal, Op.maxDepth, P0 a0 b0 a1 b1 a2 b2 a3 b3 9998, Result.andThen_ok, Sem.run_pure]
  congr 2
  simp
 simp [eqGuard]
 simpa using h2
theorem oJ : Ty Tryz.prog 112 4 40 (Value.agg [(vi 0), (vt ([] : Ai)), (vi 0), (vi 0)].toArray) := ⟨⟨Tryz.t112, by kernel_rfl, rfl, rfl, rfl⟩, rfl⟩
theorem oK (w : World) {s_a : Option Addr} {s_c : Nat} {s : List En} (h_s : Sl w Jh 4 s_a s) (n_s : s.length ≤ 1000000) : Calls Tryz.prog 92 (List.toArray [(vs s_a s.length s_c)]) w fun e w2 => ∃ a1 : Option Addr, ∃ c1 : Nat, ∃ B1 : Am, e = .returned (vs a1 s.length c1) ∧ Dz w w2 B1 ∧ Bi Jh 4 112 a1 c1 B1 s := by
 have hF := Is.refl s
 refine enter func92 ntmps92 (h := ?_)
 refine Qj ?_
 refine Ad (Yr runUnderlying48) (k := ?_)
 refine Z0 ?_
 refine Dc rfl (fun hq1 => ?_) (fun hq1 => ?_)
 ·refine Bw ?_
  refine Yf ?_
  refine Ac results92 z1 (fun w1 hw1 => ?_)
  have hcan0 : ([] : List En) = s := by (first | rfl | (exact Il h_s Zn))
  have hlen0 : 0 = s.length := by first | (rw [← hcan0]; done) | (rw [← hcan0]; first | rfl | (simp; done) | (simp only [List.length_append, List.length_take, List.length_drop, List.length_set, List.length_replicate, List.length_cons, List.length_nil, List.length_map, Cq, Ce]; omega) | (simp; omega))
  exact ⟨none, 0, [], qK, (hw1.fresh_out.sub Mt), (hcan0 ▸ Bi.nil)⟩
 refine Wd ?_
 refine Aj Ae (Dd (l := []) runUnderlying48 sizeOf112 zeroValue112) (k := fun r1 hr1 => ?_)
 refine Cg ?_
 refine Ar s (List.nil_append _) oJ underlying48 Gj Bi.nil (List.Perm.refl _) (Ch.of_base h_s) ⟨by omega, by omega⟩ (n := 0) (m := s.length) (k := fun ax1 cx1 Bx1 hox1 => ?_)
 refine Z5 ?_
 refine Ac results92 z1 (fun w1 hw1 => ?_)
 have hcan0 : s = s := by (first | rfl | (exact Il h_s Zn))
 have hlen0 : s.length = s.length := by first | (rw [← hcan0]; done) | (rw [← hcan0]; first | rfl | (simp; done) | (simp only [List.length_append, List.length_take, List.length_drop, List.length_set, List.length_replicate, List.length_cons, List.length_nil, List.length_map, Cq, Ce]; omega) | (simp; omega))
 exact ⟨ax1, cx1, Bx1, qK, (Aq (L := Bx1) (hw1.perm (List.Perm.refl _)) rfl.symm), (hcan0 ▸ hox1)⟩

theorem Vp (w : World) {n_ : Int} {least : Int} {most : Int} : Gz Tryz.prog 208 [(vi n_), (vi least), (vi most)] w (Value.bool (Vd n_ least most)) := by
 have hF := Is.refl (Vd n_ least most)
 refine enter func208 ntmps208 (h := ?_)
 refine Z2 ?_
 refine Ew ?_
 refine Ad My (k := ?_)
 refine Cg ?_
 refine Aw 10 rfl (fun hq1 => ?_) (fun hq1 => ?_)
 rotate_left
 ·refine Ag 3 rfl ?_
  refine Lr ?_
  refine Ac results208 z1 (fun w1 hw1 => ?_)
  exact ⟨(rq (hF.neg hq1)), hw1.ext_out⟩
 refine Oz ?_
 refine An Oe (k := ?_)
 refine Ry ?_
 refine Ac results208 z1 (fun w1 hw1 => ?_)
 exact ⟨(rq (hF.pos hq1)), hw1.ext_out⟩

theorem zC (w : World) {c : En} : Gz Tryz.prog 156 [(Value.agg [(vi c.id), (vt c.key), (vi c.frm), (vi c.to)].toArray)] w (Value.bool (Xm c)) := by
 have hF := Is.refl (Xm c)
 refine enter func156 ntmps156 (h := ?_)
 refine Z2 ?_
 refine Aj Ae (Jf (l := [_, _, _, _])) (k := fun r1 hr1 => ?_)
 refine Oy ?_
 refine Ad (Al Kq) (k := ?_)
 refine Ad (Al Ot) (k := ?_)
 refine Hk ?_
 refine Co (Aa call208) (fun w1 hw1 => Vp w1 (n_ := c.id) (least := 1) (most := 1000000000)) (k := ?_)
 refine Z5 ?_
 refine Ac results156 z1 (fun w1 hw1 => ?_)
 exact ⟨(rq hF), hw1.ext_out⟩

theorem tE (w : World) {c : En} : Gz Tryz.prog 157 [(Value.agg [(vi c.id), (vt c.key), (vi c.frm), (vi c.to)].toArray)] w (Value.bool (Ri c)) := by
 have hF := Is.refl (Ri c)
 refine enter func157 ntmps157 (h := ?_)
 refine Z2 ?_
 refine Aj Ae (Jf (l := [_, _, _, _])) (k := fun r1 hr1 => ?_)
 refine Oy ?_
 refine Ad (Al Kq) (k := ?_)
 refine Ad (Al lA) (k := ?_)
 refine Nn ?_
 refine Co (Aa call130) (fun w1 hw1 => Ww w1 (key := c.key)) (k := ?_)
 refine Z5 ?_
 refine Ac results157 z1 (fun w1 hw1 => ?_)
 exact ⟨(rq hF), hw1.ext_out⟩

theorem oL (w : World) {c : En} : Gz Tryz.prog 158 [(Value.agg [(vi c.id), (vt c.key), (vi c.frm), (vi c.to)].toArray)] w (Value.bool (Nh c)) := by
 have hF := Is.refl (Nh c)
 refine enter func158 ntmps158 (h := ?_)
 refine Z2 ?_
 refine Aj Ae (Jf (l := [_, _, _, _])) (k := fun r1 hr1 => ?_)
 refine Oy ?_
 refine Ad (Al Kq) (k := ?_)
 refine Ad (Al bO) (k := ?_)
 refine mI ?_
 refine Aw 7 rfl (fun hq1 => ?_) (fun hq1 => ?_)
 rotate_left
 ·refine Ag 7 rfl ?_
  refine mM ?_
  refine Lr ?_
  refine Ac results158 z1 (fun w1 hw1 => ?_)
  exact ⟨(rq (hF.neg hq1)), hw1.ext_out⟩
 refine An (Al Kq) (k := ?_)
 refine An (Al bO) (k := ?_)
 refine Qv ?_
 refine An (Al Kq) (k := ?_)
 refine An (Al bP) (k := ?_)
 refine uT ?_
 refine Qq ?_
 refine Aw 16 rfl (fun hq2 => ?_) (fun hq2 => ?_)
 rotate_left
 ·refine Ag 4 rfl ?_
  refine Lr ?_
  refine Ac results158 z1 (fun w1 hw1 => ?_)
  exact ⟨(rq ((hF.pos hq1).neg hq2)), hw1.ext_out⟩
 refine An (Al Kq) (k := ?_)
 refine An (Al bP) (k := ?_)
 refine eW ?_
 refine Ry ?_
 refine Ac results158 z1 (fun w1 hw1 => ?_)
 exact ⟨(rq ((hF.pos hq1).pos hq2)), hw1.ext_out⟩

theorem tF (w : World) {c : En} {now : Int} : Gz Tryz.prog 161 [(Value.agg [(vi c.id), (vt c.key), (vi c.frm), (vi c.to)].toArray), (vi now)] w (Value.bool (nU c now)) := by
 have hF := Is.refl (nU c now)
 refine enter func161 ntmps161 (h := ?_)
 refine Z2 ?_
 refine Aj Ae (Jf (l := [_, _, _, _])) (k := fun r1 hr1 => ?_)
 refine Oy ?_
 refine Ad (Al Kq) (k := ?_)
 refine Ad (Al bO) (k := ?_)
 refine cJ ?_
 refine rO ?_
 refine Aw 10 rfl (fun hq1 => ?_) (fun hq1 => ?_)
 rotate_left
 ·refine Ag 5 rfl ?_
  refine Lr ?_
  refine Ac results161 z1 (fun w1 hw1 => ?_)
  exact ⟨(rq (hF.neg hq1)), hw1.ext_out⟩
 refine Ep ?_
 refine An (Al Kq) (k := ?_)
 refine An (Al bP) (k := ?_)
 refine uT ?_
 refine Ry ?_
 refine Ac results161 z1 (fun w1 hw1 => ?_)
 exact ⟨(rq (hF.pos hq1)), hw1.ext_out⟩

theorem Wz (w : World) {l_a : Option Addr} {l_c : Nat} {l : List En} (h_l : Sl w Jh 4 l_a l) (n_l : l.length ≤ 1000) : Gz Tryz.prog 101 [(vs l_a l.length l_c)] w (Value.bool (Mh l)) := by
 have hF := Is.refl (Mh l)
 refine enter func101 ntmps101 (h := ?_)
 refine Jn ?_
 refine Aj Ae Sx (k := fun r1 hr1 => ?_)
 refine Hr ?_
 refine Hc ?_
 refine J3 ?_
 refine Na (σ1 := Nat) (σ2 := Nat) (σ3 := Int) (σ4 := List Int) (σ5 := Array MapEntry) (σ6 := Nat) (fun n_4 x_1 last_2 x_3 x_3e x_3k => ((r1, Obj.map x_3e x_3k) :: [])) (fun n_4 x_1 last_2 x_3 x_3e x_3k => [(0, (vs l_a l.length l_c)), (2, (Value.bool false)), (3, (Value.map (some r1))), (4, (vi last_2)), (8, (vs l_a l.length l_c)), (9, (vi ((l.length : Nat) : Int))), (10, (vi ((x_1 : Nat) : Int)))]) (fun n_4 x_1 last_2 x_3 x_3e x_3k => l.length - x_1 < n_4 ∧ Is (Jx l (l.length + 1) 0 0 ([] : List Int)) (Jx l n_4 x_1 last_2 x_3) ∧ Me (fun x : Int => vi x) x_3e x_3 ∧ x_1 ≤ l.length) (fun n_4 x_1 last_2 x_3 x_3e x_3k => n_4) (l.length + 1) 0 0 ([] : List Int) (#[]) 0 ?_ se (List.Perm.refl _) ?_
 ·exact ⟨Nat.lt_succ_self _, Is.refl _, Me.nil, Qc⟩
 ·rintro (_ | n_4) x_1 last_2 x_3 x_3e x_3k ⟨hm6, hF5, hx_3, hi7⟩
  ·omega
  refine Tx ?_
  refine Bd rfl (fun hq1 => ?_) (fun hq1 => ?_)
  ·refine Br ?_
   refine Gv ?_
   refine G8 ?_
   refine AL1 ?_
   refine Aj Ae z78 (k := fun r2 hr2 => ?_)
   refine rZ ?_
   refine Jk ?_
   refine Z3 ?_
   refine Ad (Al Ot) (k := ?_)
   refine Hk ?_
   refine Ad (Ux (xs := x_3) ((l.getD x_1 default).id) Bo runUnderlying251 runUnderlying3 zeroValue4 hx_3) (k := ?_)
   refine Cg ?_
   refine Aw 18 rfl (fun hq2 => ?_) (fun hq2 => ?_)
   ·refine Ag 4 rfl ?_
    refine G9 ?_
    refine cX ?_
    refine Ac results101 z1 (fun w1 hw1 => ?_)
    exact ⟨(rq (hF.er3 ((hF5.pos hq1).pos hq2))), hw1.ext_out⟩
   refine An (Al Ot) (k := ?_)
   refine Qv ?_
   refine Ep ?_
   refine An Mx (k := ?_)
   refine Rx ?_
   refine Bd rfl (fun hq3 => ?_) (fun hq3 => ?_)
   ·refine Bw ?_
    refine Yf ?_
    refine cX ?_
    refine Ac results101 z1 (fun w1 hw1 => ?_)
    exact ⟨(rq (hF.er3 (((hF5.pos hq1).neg hq2).pos hq3))), hw1.ext_out⟩
   refine Qd ?_
   refine Ff _ _ (vp (qa q0) (nC nE)) mixed 7 [(true, 0), (true, 1), (true, 2), (true, 3), (true, 4), (false, 5), (true, 6)] z6 ?_
   refine Fi ?_
   refine Ay (Al Ot) (k := ?_)
   refine Tj ?_
   refine Ay (Al Ot) (k := ?_)
   refine Tj ?_
   refine N2 (xs := x_3) ((l.getD x_1 default).id) Bo runUnderlying251 runUnderlying3 hx_3 Zn q0 (k := fun em6 km6 hms6 => ?_)
   refine Z63 ?_
   refine Fq (nC nE) ?_
   refine fD ?_
   refine Cc _ (List.Sublist.cons_cons _ Mt) ?_
   exact Hx n_4 (x_1 + 1) ((l.getD x_1 default).id) (x_3 ++ [((l.getD x_1 default).id)]) em6 km6 ⟨by omega, (((hF5.pos hq1).neg hq2).neg hq3), hms6, z8⟩ (Nat.lt_succ_self _) se (List.Perm.refl _)
  refine Cu ?_
  refine Kg ?_
  refine Z3 ?_
  refine Ad (Dg runUnderlying48) (k := ?_)
  refine rO ?_
  refine Aw 33 rfl (fun hq4 => ?_) (fun hq4 => ?_)
  rotate_left
  ·refine Ag 3 rfl ?_
   refine Lr ?_
   refine Ac results101 z1 (fun w1 hw1 => ?_)
   exact ⟨(rq ((hF.ok3 (hF5.neg hq1)).neg hq4)), hw1.ext_out⟩
  refine Ep ?_
  refine dL Ae (Dd (l := [_, _, _]) runUnderlying340 sizeOf253 zeroValue253) (k := fun r3 hr3 => ?_)
  refine Uu (args := [_, _]) (Aa call155) func155 ntmps155 ?_
  refine Qj ?_
  refine J3 ?_
  refine Ka (σ1 := Nat) (σ2 := Nat) (fun n_9 x_8 => ((r3, oc [(Value.func (.func 156) [].toArray [].toArray), (Value.func (.func 157) [].toArray [].toArray), (Value.func (.func 158) [].toArray [].toArray)] 253) :: ((r1, Obj.map x_3e x_3k) :: []))) (fun n_9 x_8 => [(1, (vs (some ⟨r3, 0, none⟩) 3 3)), (4, (Value.bool false)), (9, (vs l_a l.length l_c)), (10, (vi ((l.length : Nat) : Int))), (11, (vi ((x_8 : Nat) : Int)))]) (fun n_9 x_8 => l.length - x_8 < n_9 ∧ Is (Lm l x_1 last_2 x_3 (l.length + 1) 0) (Lm l x_1 last_2 x_3 n_9 x_8) ∧ x_8 ≤ l.length) (fun n_9 x_8 => n_9) (l.length + 1) 0 ?_ se (List.Perm.refl _) ?_
  ·exact ⟨Nat.lt_succ_self _, Is.refl _, Qc⟩
  ·rintro (_ | n_9) x_8 ⟨hm11, hF10, hi12⟩
   ·omega
   refine Tx ?_
   refine Bd rfl (fun hq5 => ?_) (fun hq5 => ?_)
   rotate_left
   ·refine Cu ?_
    refine Kg ?_
    refine Yc ?_
    refine I4 ?_
    refine Ac results101 z1 (fun w1 hw1 => ?_)
    exact ⟨(rq (((hF.ok3 (hF5.neg hq1)).pos hq4).ok1 (hF10.neg hq5))), hw1.ext_out⟩
   refine aA ?_
   refine Ad (Dl (n := l.length) runUnderlying48 sizeOf112 x_8 cF (gD Da) Lp) (k := ?_)
   refine Ad (Ht isAgg112 sizeOf112 x_8 cF (gD Da)) (k := ?_)
   refine Aj Ae z78 (k := fun r4 hr4 => ?_)
   refine rZ ?_
   refine Jm ?_
   refine Ad (Dg runUnderlying340) (k := ?_)
   refine Zx ?_
   refine Ad (Dy runUnderlying340 sizeOf253 0) (k := ?_)
   refine Ad (Bb isAgg253) (k := ?_)
   refine Mu ?_
   refine C6 ?_
   refine Co (Aa call156) (fun w1 hw1 => zC w1 (c := (l.getD x_8 default))) (k := ?_)
   refine Oc ?_
   refine Dc rfl (fun hq6 => ?_) (fun hq6 => ?_)
   ·refine Bw ?_
    refine Dn ?_
    refine qN ?_
    refine Lw ?_
    refine Et ?_
    refine cX ?_
    refine I4 ?_
    refine Ac results101 z1 (fun w1 hw1 => ?_)
    exact ⟨(rq (((hF.ok3 (hF5.neg hq1)).pos hq4).er1 ((hF10.pos hq5).t hq6))), hw1.ext_out⟩
   refine Wa ?_
   refine Ad (Dy runUnderlying340 sizeOf253 1) (k := ?_)
   refine Ad (Bb isAgg253) (k := ?_)
   refine Mu ?_
   refine C6 ?_
   refine Co (Aa call157) (fun w1 hw1 => tE w1 (c := (l.getD x_8 default))) (k := ?_)
   refine Oc ?_
   refine Dc rfl (fun hq7 => ?_) (fun hq7 => ?_)
   ·refine Bw ?_
    refine Dn ?_
    refine qN ?_
    refine Lw ?_
    refine Et ?_
    refine cX ?_
    refine I4 ?_
    refine Ac results101 z1 (fun w1 hw1 => ?_)
    exact ⟨(rq (((hF.ok3 (hF5.neg hq1)).pos hq4).er1 (((hF10.pos hq5).f hq6).t hq7))), hw1.ext_out⟩
   refine Wa ?_
   refine Ad (Dy runUnderlying340 sizeOf253 2) (k := ?_)
   refine Ad (Bb isAgg253) (k := ?_)
   refine Mu ?_
   refine C6 ?_
   refine Co (Aa call158) (fun w1 hw1 => oL w1 (c := (l.getD x_8 default))) (k := ?_)
   refine Oc ?_
   refine Dc rfl (fun hq8 => ?_) (fun hq8 => ?_)
   ·refine Bw ?_
    refine Dn ?_
    refine qN ?_
    refine Lw ?_
    refine Et ?_
    refine cX ?_
    refine I4 ?_
    refine Ac results101 z1 (fun w1 hw1 => ?_)
    exact ⟨(rq (((hF.ok3 (hF5.neg hq1)).pos hq4).er1 ((((hF10.pos hq5).f hq6).f hq7).t hq8))), hw1.ext_out⟩
   refine Br ?_
   refine Ya ?_
   refine Z53 ?_
   refine iK ?_
   refine Dj _ ((qa (qa q0)).trans (qa (qa q0))) ?_
   refine AB5 ?_
   exact Hw n_9 (x_8 + 1) ⟨by omega, ((((hF10.pos hq5).f hq6).f hq7).f hq8), z8⟩ (Nat.lt_succ_self _) se (List.Perm.refl _)

theorem lB (w : World) {l_a : Option Addr} {l_c : Nat} {l : List En} {now : Int} (h_l : Sl w Jh 4 l_a l) (n_l : l.length ≤ 1000) : Calls Tryz.prog 49 (List.toArray [(vs l_a l.length l_c), (vi now)]) w fun e w2 => ∃ a1 : Option Addr, ∃ c1 : Nat, ∃ B1 : Am, e = .returned (vs a1 ((Dt l now).length) c1) ∧ Dz w w2 B1 ∧ Bi Jh 4 112 a1 c1 B1 (Dt l now) ∧ (Dt l now).length ≤ 1000 := by
 have hF := Is.refl (Dt l now)
 refine enter func49 ntmps49 (h := ?_)
 refine Qj ?_
 refine Co (Aa call101) (fun w1 hw1 => Wz w1 (l := l) (h_l := (Ch.of_base h_l) w1 hw1) (n_l := Nm)) (k := ?_)
 refine Oc ?_
 refine Dc rfl (fun hq1 => ?_) (fun hq1 => ?_)
 ·refine Bw ?_
  refine Yf ?_
  refine Ac results49 z1 (fun w1 hw1 => ?_)
  exact ⟨none, 0, [], (rq (hF.t hq1)), (hw1.fresh_out.sub Mt), (ro (hF.t hq1)), (rl (hF.t hq1))⟩
 have hfhq1 := kQ uF
 refine Qd ?_
 refine Qp ?_
 refine Bh (args := [_, _]) (Aa call103) func103 ntmps103 ?_
 refine Z2 ?_
 refine Aj Ae Qh (k := fun r1 hr1 => ?_)
 refine Aj Ae Qh (k := fun r2 hr2 => ?_)
 refine Uc ?_
 refine Av results103 z1 ?_
 refine Bh (args := [_]) (Aa call102) func102 ntmps102 ?_
 refine Mq ?_
 refine Ut (args := [_, _]) (Aa call159) func159 ntmps159 ?_
 refine Z2 ?_
 refine Aj Ae Qh (k := fun r3 hr3 => ?_)
 refine Hc ?_
 refine Kt ?_
 refine Fc Ae rfl call160 func160 ntmps160 (fun l4 rD4 rr4 hl4 => ?_)
 refine Ye ?_
 refine Ad (Bb isAgg48) (k := ?_)
 refine J3 ?_
 refine Na (σ1 := Nat) (σ2 := Nat) (σ3 := List En) (σ4 := Option Addr) (σ5 := Nat) (σ6 := Am) (fun n_3 x_1 x_2 x_2a x_2c x_2B => (x_2B ++ ((l4, Cb rr4 .ready none) :: ((rD4, Obj.deferred (some [])) :: ((r3, oc [(vs x_2a x_2.length x_2c)] 48) :: ((r2, oc [(vi now)] 3) :: ((r1, oc [(vs l_a l.length l_c)] 48) :: []))))))) (fun n_3 x_1 x_2 x_2a x_2c x_2B => [(0, (Value.func (.yield l4) [].toArray [].toArray)), (2, (Value.pointer (some ⟨r2, 0, none⟩))), (7, (vs l_a l.length l_c)), (8, (vi ((l.length : Nat) : Int))), (9, (vi ((x_1 : Nat) : Int)))]) (fun n_3 x_1 x_2 x_2a x_2c x_2B => l.length - x_1 < n_3 ∧ Is (Kp l now (l.length + 1) 0 []) (Kp l now n_3 x_1 x_2) ∧ Bi Jh 4 112 x_2a x_2c x_2B x_2 ∧ x_2.length ≤ x_1 ∧ x_1 ≤ l.length) (fun n_3 x_1 x_2 x_2a x_2c x_2B => n_3) (l.length + 1) 0 ([]) none 0 ([]) ?_ se (List.Perm.refl _) ?_
 ·exact ⟨Nat.lt_succ_self _, Is.refl _, Bi.nil, Qc, Qc⟩
 ·rintro (_ | n_3) x_1 x_2 x_2a x_2c x_2B ⟨hm5, hF4, hx_2, hi6, hi7⟩
  ·omega
  refine Tx ?_
  refine Bd rfl (fun hq2 => ?_) (fun hq2 => ?_)
  rotate_left
  ·refine Cu ?_
   refine Jl ?_
   refine Gg (.inr rfl) results160 (qc q0) ?_
   refine Ti ?_
   refine Ad (Bb isAgg48) (k := ?_)
   refine Z5 ?_
   refine Ix [rD4] (qa (qc q0)) results159 z1 ?_
   refine Z5 ?_
   refine Av results102 z1 ?_
   refine Z5 ?_
   refine Ac results49 z1 (fun w1 hw1 => ?_)
   exact ⟨x_2a, x_2c, x_2B, (rq ((hF.f hq1).rn2 (hF4.neg hq2))), (Aq (L := x_2B) (hw1.perm (qb q0)) rfl.symm), (by rw [((hF.f hq1).rn2 (hF4.neg hq2)).eq]; exact hx_2), (rl ((hF.f hq1).rn2 (hF4.neg hq2)))⟩
  refine aA ?_
  refine AL1 ?_
  refine Aj Ae z78 (k := fun r5 hr5 => ?_)
  refine rZ ?_
  refine Qn ?_
  refine C6 ?_
  refine Wf ?_
  refine Mu ?_
  refine Hk ?_
  refine Co (Aa call161) (fun w1 hw1 => tF w1 (c := (l.getD x_1 default)) (now := now)) (k := ?_)
  refine Cg ?_
  refine Cs 19 rfl (fun hq3 => ?_) (fun hq3 => ?_)
  rotate_left
  ·refine Ag 4 rfl ?_
   refine Rx ?_
   refine Pb ?_
   refine Dj _ ((((((qa (qc (qa (qa (qa (qa q0)))))).trans (qa (qa (qc (qa (qa (qa q0))))))).trans (qa (qa (qa (qc (qa (qa q0))))))).trans (qa (qa (qa (qa (qc (qa q0))))))).trans (qa (qa (qa (qa (qa (qc q0))))))).trans (qb (qb (qb (qb (qb (qb q0))))))) ?_
   refine AN3 ?_
   exact Hx n_3 (x_1 + 1) x_2 x_2a x_2c x_2B ⟨by omega, ((hF4.pos hq2).f hq3), hx_2, z8, z8⟩ (Nat.lt_succ_self _) se (List.Perm.refl _)
  refine Ep ?_
  refine An (Bq isAgg112 sizeOf112) (k := ?_)
  refine Dv (vs := [(Value.agg [(vi ((l.getD x_1 default).id)), (vt ((l.getD x_1 default).key)), (vi ((l.getD x_1 default).frm)), (vi ((l.getD x_1 default).to))].toArray)]) hl4 (qa (qc q0)) Dh ?_
  refine Dn ?_
  refine Aj Ae z78 (k := fun r6 hr6 => ?_)
  refine rZ ?_
  refine Ef ?_
  refine W4 ?_
  refine Ad (Bb isAgg48) (k := ?_)
  refine Ad (Bq isAgg112 sizeOf112) (k := ?_)
  refine Aj Ae (Dd (l := [_, _, _, _]) runUnderlying48 sizeOf112 zeroValue112) (k := fun r7 hr7 => ?_)
  refine Ar (x_2 ++ ([(l.getD x_1 default)] : List En)) rfl oJ underlying48 Gj hx_2 (qb (qb (qb (qb q0)))) (Ch.lit (xs := ([(l.getD x_1 default)] : List En)) Gj) ⟨by omega, by omega⟩ (n := x_2.length) (m := 1) (k := fun ax1 cx1 Bx1 hox1 => ?_)
  have hal1 : (x_2 ++ ([(l.getD x_1 default)] : List En)).length = x_2.length + 1 := by first | rfl | exact List.length_append | simp
  refine Eh (Bc (l' := [_]) sizeOf48) (k := ?_)
  refine Ef ?_
  refine uR ?_
  refine Pb ?_
  refine Dj _ ((((((qa (qc (qa (qa (qa (qa (qa (qa q0)))))))).trans (qa (qa (qc (qa (qa (qa (qa (qa q0))))))))).trans (qa (qa (qa (qc (qa (qa (qa (qa q0))))))))).trans (qa (qa (qa (qa (qc (qa (qa (qa q0))))))))).trans (qa (qa (qa (qa q0))))).trans (qb (qb (qb (qb (qb q0)))))) ?_
  refine AN3 ?_
  exact Hx n_3 (x_1 + 1) (x_2 ++ ([(l.getD x_1 default)] : List En)) ax1 cx1 Bx1 ⟨by omega, ((hF4.pos hq2).t hq3), hox1, z8, z8⟩ (Nat.lt_succ_self _) se (List.Perm.refl _)

theorem tG (w : World) {l_a : Option Addr} {l_c : Nat} {ea0 : Addr} {ea1 : Addr} {ea2 : Addr} {ea3 : Addr} {ea4 : Addr} {ea5 : Addr} {ea6 : Addr} {ea7 : Addr} {ea8 : Addr} {ea9 : Addr} {ea10 : Addr} {ea11 : Addr} {ea12 : Addr} {ea13 : Addr} {ea14 : Addr} {ea15 : Addr} {l : List En} {now : Int} {challenge : Ai} {name : Ai} {proof : Ai} (h_l : Sl w Jh 4 l_a l) (n_l : l.length ≤ 1000) (n_name : name.length ≤ 10000) (n_proof : proof.length ≤ 1000000) (hG : Gl w) (hE : Er w ea0 ea1 ea2 ea3 ea4 ea5 ea6 ea7 ea8 ea9 ea10 ea11 ea12 ea13 ea14 ea15) : Gz Tryz.prog 17 [(vs l_a l.length l_c), (vi now), (vt challenge), (vt name), (vt proof)] w (Value.tuple [(vi ((Wr l now challenge name proof).1)), (Value.bool ((Wr l now challenge name proof).2))].toArray) := by
 have hF := Is.refl (Wr l now challenge name proof)
 refine enter func17 ntmps17 (h := ?_)
 refine Z2 ?_
 refine Hr ?_
 refine Oy ?_
 refine Ad (Cf (cs := [_, _, _, _]) zeroValue112 zB) (k := ?_)
 refine Aj Ae z78 (k := fun r1 hr1 => ?_)
 refine rZ ?_
 refine Jk ?_
 refine Qp ?_
 refine Pj (Aa call49) (fun w1 hw1 => lB w1 (l := l) (now := now) (h_l := (Ch.of_base h_l) w1 hw1) (n_l := Nm)) (k := ?_)
 rintro w1_1 e1_1 w2_1 hw1_1 ⟨a1_1, c1_1, B1_1, he_1, hf_1, ho1_1, hl1_1⟩
 refine ⟨_, _, he_1, hw1_1.fresh hf_1, ?_⟩
 refine J3 ?_
 refine Ka (σ1 := Nat) (σ2 := Nat) (fun n_2 x_1 => (B1_1 ++ ((r1, oc [(vi 0), (vt ([] : Ai)), (vi 0), (vi 0)] 112) :: []))) (fun n_2 x_1 => [(2, (vt challenge)), (3, (vt name)), (4, (vt proof)), (10, (vi 0)), (11, (Value.bool false)), (12, (Value.pointer (some ⟨r1, 0, none⟩))), (20, (vs a1_1 ((Dt l now).length) c1_1)), (21, (vi ((((Dt l now).length) : Nat) : Int))), (22, (vi ((x_1 : Nat) : Int)))]) (fun n_2 x_1 => ((Dt l now).length) - x_1 < n_2 ∧ Is (Ln l now challenge name proof (((Dt l now).length) + 1) 0) (Ln l now challenge name proof n_2 x_1)) (fun n_2 x_1 => n_2) (((Dt l now).length) + 1) 0 ?_ se (List.Perm.refl _) ?_
 ·exact ⟨Nat.lt_succ_self _, Is.refl _⟩
 ·rintro (_ | n_2) x_1 ⟨hm4, hF3⟩
  ·omega
  refine Tx ?_
  refine Bd rfl (fun hq1 => ?_) (fun hq1 => ?_)
  rotate_left
  ·refine Cu ?_
   refine Kg ?_
   refine Z2 ?_
   refine Zw ?_
   refine Ac results17 (Bk.tmp rfl z1) (fun w1 hw1 => ?_)
   exact ⟨(rq (hF.ok1 (hF3.neg hq1))), hw1.ext_out⟩
  refine aA ?_
  refine Ad (Dl (n := (Dt l now).length) runUnderlying48 sizeOf112 x_1 (ho1_1.slj Gj) (gD Da) Lp) (k := ?_)
  refine Ad (Ht isAgg112 sizeOf112 x_1 (ho1_1.slj Gj) (gD Da)) (k := ?_)
  refine Aj Ae z78 (k := fun r2 hr2 => ?_)
  refine rZ ?_
  refine Qn ?_
  refine Ad (Al lA) (k := ?_)
  refine Nn ?_
  refine Qi ?_
  refine Co (Aa call33) (fun w1 hw1 => pR w1 (key := (((Dt l now).getD x_1 default).key)) (challenge := challenge) (name := name) (n_name := Nm) (hG := hG.ext hw1.ext_out) (hE := hE.ext hw1.ext_out)) (k := ?_)
  have han_35915 := kO (((Dt l now).getD x_1 default).key) challenge name
  refine Qt ?_
  refine Oy ?_
  refine Ad (Bq isAgg112 sizeOf112) (k := ?_)
  refine Ad (Bq isAgg112 sizeOf112) (k := ?_)
  refine Ad (aY (AF8 _ _ _ _ _ _ _ _ _ _)) (k := ?_)
  refine Cg ?_
  refine Aw 37 rfl (fun hq2 => ?_) (fun hq2 => ?_)
  rotate_left
  ·refine Ag 2 rfl ?_
   refine uA ?_
   refine Rx ?_
   refine Pb ?_
   refine X6 ?_
   exact Hw n_2 (x_1 + 1) ⟨by omega, ((hF3.pos hq1).neg hq2)⟩ (Nat.lt_succ_self _) se (List.Perm.refl _)
  refine Zu ?_
  refine Qq ?_
  refine Aw 41 rfl (fun hq3 => ?_) (fun hq3 => ?_)
  rotate_left
  ·refine Ag 3 rfl ?_
   refine Rx ?_
   refine Pb ?_
   refine X6 ?_
   exact Hw n_2 (x_1 + 1) ⟨by omega, (((hF3.pos hq1).pos hq2).neg hq3)⟩ (Nat.lt_succ_self _) se (List.Perm.refl _)
  refine Oz ?_
  refine Mv (Aa call50) (fun w1 hw1 => yO w1 (a := ((Hz (((Dt l now).getD x_1 default).key) challenge name).1)) (b := proof) (n_a := Nm) (n_b := Nm)) (k := ?_)
  refine B0 ?_
  refine Dc rfl (fun hq4 => ?_) (fun hq4 => ?_)
  rotate_left
  ·refine Br ?_
   refine iK ?_
   refine X6 ?_
   exact Hw n_2 (x_1 + 1) ⟨by omega, ((((hF3.pos hq1).pos hq2).pos hq3).f hq4)⟩ (Nat.lt_succ_self _) se (List.Perm.refl _)
  refine Z2 ?_
  refine Ad (Al Ot) (k := ?_)
  refine Hk ?_
  refine Hr ?_
  refine iB ?_
  refine Ac results17 (Bk.tmp rfl z1) (fun w1 hw1 => ?_)
  exact ⟨(rq (hF.er1 ((((hF3.pos hq1).pos hq2).pos hq3).t hq4))), hw1.ext_out⟩

end Go.Proofs.YtdnjanhdnibkfaaGreatDoor.Jd

