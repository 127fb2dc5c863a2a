/- Part of the proofs of this seat: walks and plain facts. No condition. -/
import Derived.Test.YtdnjanhdnibkfaaGreatDoorA0
import Derived.Test.YtdnjanhdnibkfaaGreatDoorProg
import Derived.Test.YtdnjanhdnibkfaaGreatDoorA5
import Derived.Test.YtdnjanhdnibkfaaGreatDoorA1
import Derived.Test.YtdnjanhdnibkfaaGreatDoorA4
import Derived.Test.YtdnjanhdnibkfaaGreatDoorA6
import Derived.Test.YtdnjanhdnibkfaaGreatDoorA2
namespace Go.Proofs.YtdnjanhdnibkfaaGreatDoor.Jd
open Go.Proofs.Tryz
set_option linter.unusedVariables false
set_option linter.unusedSimpArgs false
section
variable {p q : Prop}
theorem Z44 (k : q) (h : Aw q → p := by intro z; refine lQ ?_; refine Ms (Ac call20) (fun w1 hw1 => Ld w1 (s := ((Aj (Am s) (Aq f) (Br r) now).1)) (stream := ((Aq f).stream)) (h_s_opn := (Hd.slj hs1_3) w1 hw1) (n_s_opn := z1)) (k := ?_); exact z.1) : p := h ⟨k⟩
theorem BC2 (k : q) (h : Aw q → p := by intro z; refine Ms (Ac call20) (fun w1 hw1 => Ld w1 (s := ((Aj (Am s) (Aq f) (Br r) now).1)) (stream := other) (h_s_opn := (Hd.slj hs1_3) w1 hw1) (n_s_opn := z1)) (k := ?_); refine Ms (Ac call20) (fun w1 hw1 => Ld w1 (s := (Am s)) (stream := other) (h_s_opn := (ho1_1.slj Ba) w1 hw1) (n_s_opn := z1)) (k := ?_); exact z.1) : p := h ⟨k⟩
theorem mE (k : q) (h : Aw q → p := by intro z; refine Bu z66 (k := ?_); refine Bu (Al Ke) (k := ?_); exact z.1) : p := h ⟨k⟩
theorem BK9 (k : q) (h : Aw q → p := by intro z; refine Eh mixed 56 [(true, 0), (true, 1), (true, 2), (true, 3), (true, 4), (true, 5), (true, 6), (true, 7), (true, 8), (true, 9), (true, 10), (true, 11), (true, 12), (true, 13), (false, 14), (true, 15), (true, 16), (true, 17), (true, 18), (true, 19), (true, 20), (true, 21), (true, 22), (true, 23), (true, 24), (true, 25), (true, 26), (true, 27), (true, 28), (true, 29), (true, 30), (true, 31), (true, 32), (true, 33), (true, 34), (true, 35), (true, 37), (true, 38), (false, 36), (false, 39), (true, 40), (true, 41), (true, 42), (true, 43), (true, 44), (true, 45), (true, 46), (true, 47), (true, 48), (true, 49), (true, 50), (false, 51), (true, 52), (true, 53), (true, 54), (true, 55)] z2 ?_; refine Li ?_; exact z.1) : p := h ⟨k⟩
theorem qX (k : q) (h : Aw q → p := by intro z; refine Bu (Al Qs) (k := ?_); refine L5 ?_; exact z.1) : p := h ⟨k⟩
theorem qY (k : q) (h : Aw q → p := by intro z; refine Bu Hi (k := ?_); refine vO ?_; exact z.1) : p := h ⟨k⟩
theorem uX (k : q) (h : Aw q → p := by intro z; refine iX ?_; refine eJ ?_; exact z.1) : p := h ⟨k⟩
end
open Go.Proofs
set_option maxRecDepth 100000
set_option linter.unusedVariables false
set_option linter.unusedSimpArgs false
theorem kS {s : Session} {n x : Int} : x ∈ (cE s n).opn ↔ x ∈ s.opn ∧ x ≠ n := by
  show x ∈ s.opn.filter _ ↔ _
  rw [List.mem_filter]; simp
theorem iD {s t : Session} {n : Int} (h : n ∈ s.opn ↔ n ∈ t.opn) : Dp s n = Dp t n := by
  rw [Bool.eq_iff_iff, Rz, Rz]; exact h
end Go.Proofs.YtdnjanhdnibkfaaGreatDoor.Jd

namespace Go.Proofs.YtdnjanhdnibkfaaGreatDoor.Jd
open Go.Proofs.Tryz
open Go.Proofs
open Go.RowKit (Below)
set_option maxRecDepth 100000
set_option maxHeartbeats 8000000
set_option linter.unusedVariables false
set_option linter.unusedSimpArgs false
def Ig (s : Session) (f : Frame) (r : Bk) (now : Int) (other : Int) : Bool := (if ((Aj (Am s) (Aq f) (Br r) now).2.2.2) ≠ 0 then Ds else (if 2 ≤ ((Aj (Am s) (Aq f) (Br r) now).2.2.1.kind) then (if Ds = true then (if ¬ (((Aj (Am s) (Aq f) (Br r) now).2.2.1.kind) ≤ 5) then (if ((Aj (Am s) (Aq f) (Br r) now).2.2.1.kind) = 6 then (if ((Aj (Am s) (Aq f) (Br r) now).2.2.1.kind) ≠ 5 then true else (!(Dp ((Aj (Am s) (Aq f) (Br r) now).1) ((Aq f).stream)))) else (if other = ((Aq f).stream) then (if ((Aj (Am s) (Aq f) (Br r) now).2.2.1.kind) ≠ 5 then true else (!(Dp ((Aj (Am s) (Aq f) (Br r) now).1) ((Aq f).stream)))) else (if ((Dp ((Aj (Am s) (Aq f) (Br r) now).1) other) == (Dp (Am s) other)) = true then (if ((Aj (Am s) (Aq f) (Br r) now).2.2.1.kind) ≠ 5 then true else (!(Dp ((Aj (Am s) (Aq f) (Br r) now).1) ((Aq f).stream)))) else false))) else (if ((Aj (Am s) (Aq f) (Br r) now).2.2.1.stream) = ((Aq f).stream) then (if (Dp (Am s) ((Aq f).stream)) = true then (if ((Am s).phase) = 2 then (if ((Aj (Am s) (Aq f) (Br r) now).2.2.1.kind) = 6 then (if ((Aj (Am s) (Aq f) (Br r) now).2.2.1.kind) ≠ 5 then true else (!(Dp ((Aj (Am s) (Aq f) (Br r) now).1) ((Aq f).stream)))) else (if other = ((Aq f).stream) then (if ((Aj (Am s) (Aq f) (Br r) now).2.2.1.kind) ≠ 5 then true else (!(Dp ((Aj (Am s) (Aq f) (Br r) now).1) ((Aq f).stream)))) else (if ((Dp ((Aj (Am s) (Aq f) (Br r) now).1) other) == (Dp (Am s) other)) = true then (if ((Aj (Am s) (Aq f) (Br r) now).2.2.1.kind) ≠ 5 then true else (!(Dp ((Aj (Am s) (Aq f) (Br r) now).1) ((Aq f).stream)))) else false))) else false) else false) else false)) else false) else (if Ds = true then (if ((Aj (Am s) (Aq f) (Br r) now).2.2.1.kind) = 6 then (if ((Aj (Am s) (Aq f) (Br r) now).2.2.1.kind) ≠ 5 then true else (!(Dp ((Aj (Am s) (Aq f) (Br r) now).1) ((Aq f).stream)))) else (if other = ((Aq f).stream) then (if ((Aj (Am s) (Aq f) (Br r) now).2.2.1.kind) ≠ 5 then true else (!(Dp ((Aj (Am s) (Aq f) (Br r) now).1) ((Aq f).stream)))) else (if ((Dp ((Aj (Am s) (Aq f) (Br r) now).1) other) == (Dp (Am s) other)) = true then (if ((Aj (Am s) (Aq f) (Br r) now).2.2.1.kind) ≠ 5 then true else (!(Dp ((Aj (Am s) (Aq f) (Br r) now).1) ((Aq f).stream)))) else false))) else false)))
end Go.Proofs.YtdnjanhdnibkfaaGreatDoor.Jd

namespace Go.Proofs.YtdnjanhdnibkfaaGreatDoor.Jd
open Go.Proofs.Tryz
open Go.Proofs
open Go.RowKit (Below)
set_option maxRecDepth 100000
set_option maxHeartbeats 8000000
set_option linter.unusedVariables false
set_option linter.unusedSimpArgs false
theorem Zt (w : World) {s_opn_a : Option Addr} {s_opn_c : Nat} {r_Sg_a : Option Addr} {r_Sg_c : Nat} {r_Su_a : Option Addr} {r_Su_c : Nat} {r_Sf_a : Option Addr} {r_Sf_c : Nat} {r_l_a : Option Addr} {r_l_c : Nat} {r_l_t : List TA} {ea0 : Addr} {ea1 : Addr} {ea2 : Addr} {ea3 : Addr} {ea4 : Addr} {ea5 : Addr} {ea6 : Addr} {ea7 : Addr} {ea8 : Addr} {ea9 : Addr} {ea10 : Addr} {ea11 : Addr} {ea12 : Addr} {ea13 : Addr} {ea14 : Addr} {ea15 : Addr} {s : Session} {f : Frame} {r : Bk} {now : Int} {other : Int} (h_s_opn : Sl w eI 1 s_opn_a s.opn) (k_s_opn : s.opn.length ≤ s_opn_c) (h_r_Sg : Sl w eI 1 r_Sg_a r.slots.gens) (k_r_Sg : r.slots.gens.length ≤ r_Sg_c) (h_r_Su : Sl w eB 1 r_Su_a r.slots.used) (k_r_Su : r.slots.used.length ≤ r_Su_c) (h_r_Sf : Sl w eI 1 r_Sf_a r.slots.free) (k_r_Sf : r.slots.free.length ≤ r_Sf_c) (h_r_l : Yz w Ef 8 DT r_l_a r.l r_l_t) (k_r_l : r.l.length ≤ r_l_c) (hG : Gl w) (hE : Er w ea0 ea1 ea2 ea3 ea4 ea5 ea6 ea7 ea8 ea9 ea10 ea11 ea12 ea13 ea14 ea15) : Ha Tryz.prog 5 [(Value.agg [(vi s.phase), (vt s.name), (vi s.handle.slot), (vi s.handle.gen), (vi s.a), (vi s.b), (vs s_opn_a s.opn.length s_opn_c)].toArray), (Value.agg [(vi f.kind), (vi f.stream), (vt f.data)].toArray), (Value.agg [(vs r_Sg_a r.slots.gens.length r_Sg_c), (vs r_Su_a r.slots.used.length r_Su_c), (vs r_Sf_a r.slots.free.length r_Sf_c), (vs r_l_a r.l.length r_l_c), (vi r.seq)].toArray), (vi now), (vi other)] w (Value.bool (Ig s f r now other)) := by
 have hF := Is.refl (Ig s f r now other)
 refine enter func5 ntmps5 (h := ?_)
 refine Z2 ?_
 refine Ak Ag oH (k := fun r1 hr1 => ?_)
 refine Ak Ag Ll (k := fun r2 hr2 => ?_)
 refine Ak Ag mH (k := fun r3 hr3 => ?_)
 refine Z1 ?_
 refine A7 ?_
 refine Z1 ?_
 refine A0 ?_
 rintro w1_1 e1_1 w2_1 hw1_1 ⟨a1_1, c1_1, B1_1, he_1, hf_1, ho1_1, hl1_1⟩
 refine ⟨_, _, he_1, hw1_1.fresh hf_1, ?_⟩
 have hct_14047 := Me s; have hcq_14047 := Pw s
 refine vP ?_
 refine Z2 ?_
 refine AD2 ?_
 have hcf_31844 := Ti f
 refine AH4 ?_
 refine Z77 ?_
 rintro w1_2 e1_2 w2_2 hw1_2 ⟨a1_2, c1_2, t1_2, B_2, he_2, hf_2, hs1_2, hl1_2⟩
 refine ⟨_, _, he_2, hw1_2.fresh hf_2, ?_⟩
 have hcb_2 := cH r
 have hsm_2 := Px r
 refine M4 ?_
 refine rE ?_
 refine A9 ?_
 refine Z34 ?_
 rintro w1_3 e1_3 w2_3 hw1_3 ⟨a1_3, c1_3, a2_3, c2_3, B_3, he_3, hf_3, hs1_3, hs2_3, hl1_3, hl2_3⟩
 refine ⟨_, _, he_3, hw1_3.fresh hf_3, ?_⟩
 refine Kf ?_
 refine K0 ?_
 refine Ak Ag mG (k := fun r4 hr4 => ?_)
 refine Ak Ag z36 (k := fun r5 hr5 => ?_)
 refine fC ?_
 refine Ik ?_
 refine Eu ?_
 refine Dk _ (sk (sk (sa (sx (sa (sd (sk (sk sz)))))))) ?_
 refine Jt ?_
 refine cU ?_
 refine Bi rfl (fun hq1 => ?_) (fun hq1 => ?_)
 ·refine Cb ?_
  refine Jt ?_
  refine Rg ?_
  refine Aa results5 z0 (fun w1 hw1 => ?_)
  exact ⟨(rq (hF.pos hq1)), hw1.ext_out⟩
 refine Ua ?_
 refine Af (Al Qs) (k := ?_)
 refine sJ ?_
 refine Ao 40 rfl (fun hq2 => ?_) (fun hq2 => ?_)
 rotate_left
 ·refine Ab 3 rfl ?_
  refine Xd ?_
  refine BK9 ?_
  refine Fp 46 rfl (fun hq20 => ?_) (fun hq20 => ?_)
  rotate_left
  ·refine Ay 20 rfl ?_
   refine oI ?_
   refine Ay 18 rfl ?_
   refine oI ?_
   refine Ay 10 rfl ?_
   refine Ks ?_
   refine Aa results5 z0 (fun w1 hw1 => ?_)
   exact ⟨(rq (((hF.neg hq1).neg hq2).f hq20)), hw1.ext_out⟩
  refine Ht ?_
  refine Bu Hi (k := ?_)
  refine Ht ?_
  refine Ay 16 rfl ?_
  refine uX ?_
  refine Bu (Al Qs) (k := ?_)
  refine lC ?_
  refine Ht ?_
  refine Dg 72 rfl (fun hq21 => ?_) (fun hq21 => ?_)
  ·refine Ay 4 rfl ?_
   refine vW ?_
   refine Ay 7 rfl ?_
   refine uX ?_
   refine qX ?_
   refine Dg 92 rfl (fun hq22 => ?_) (fun hq22 => ?_)
   ·refine Ay 5 rfl ?_
    refine lM ?_
    refine Aa results5 z0 (fun w1 hw1 => ?_)
    exact ⟨(rq (((((hF.neg hq1).neg hq2).t hq20).pos hq21).pos hq22)), hw1.ext_out⟩
   refine mE ?_
   refine Z44 ?_
   refine qY ?_
   refine Aa results5 z0 (fun w1 hw1 => ?_)
   exact ⟨(rq (((((hF.neg hq1).neg hq2).t hq20).pos hq21).neg hq22)), hw1.ext_out⟩
  refine Ht ?_
  refine N5 ?_
  refine vV ?_
  refine Dg 78 rfl (fun hq23 => ?_) (fun hq23 => ?_)
  ·refine Ay 7 rfl ?_
   refine uX ?_
   refine qX ?_
   refine Dg 92 rfl (fun hq24 => ?_) (fun hq24 => ?_)
   ·refine Ay 5 rfl ?_
    refine lM ?_
    refine Aa results5 z0 (fun w1 hw1 => ?_)
    exact ⟨(rq ((((((hF.neg hq1).neg hq2).t hq20).neg hq21).pos hq23).pos hq24)), hw1.ext_out⟩
   refine mE ?_
   refine Z44 ?_
   refine qY ?_
   refine Aa results5 z0 (fun w1 hw1 => ?_)
   exact ⟨(rq ((((((hF.neg hq1).neg hq2).t hq20).neg hq21).pos hq23).neg hq24)), hw1.ext_out⟩
  refine rV ?_
  refine rV ?_
  refine BC2 ?_
  refine wL ?_
  refine Ub ?_
  refine eJ ?_
  refine Fp 88 rfl (fun hq25 => ?_) (fun hq25 => ?_)
  rotate_left
  ·refine Ay 10 rfl ?_
   refine Ks ?_
   refine Aa results5 z0 (fun w1 hw1 => ?_)
   exact ⟨(rq ((((((hF.neg hq1).neg hq2).t hq20).neg hq21).neg hq23).f hq25)), hw1.ext_out⟩
  refine qX ?_
  refine Dg 92 rfl (fun hq26 => ?_) (fun hq26 => ?_)
  ·refine Ay 5 rfl ?_
   refine lM ?_
   refine Aa results5 z0 (fun w1 hw1 => ?_)
   exact ⟨(rq (((((((hF.neg hq1).neg hq2).t hq20).neg hq21).neg hq23).t hq25).pos hq26)), hw1.ext_out⟩
  refine mE ?_
  refine Z44 ?_
  refine qY ?_
  refine Aa results5 z0 (fun w1 hw1 => ?_)
  exact ⟨(rq (((((((hF.neg hq1).neg hq2).t hq20).neg hq21).neg hq23).t hq25).neg hq26)), hw1.ext_out⟩
 refine Ar (Al Qs) (k := ?_)
 refine lD ?_
 refine aK ?_
 refine Ik ?_
 refine BK9 ?_
 refine Fp 46 rfl (fun hq3 => ?_) (fun hq3 => ?_)
 rotate_left
 ·refine Ay 20 rfl ?_
  refine oI ?_
  refine Ay 18 rfl ?_
  refine oI ?_
  refine Ay 10 rfl ?_
  refine Ks ?_
  refine Aa results5 z0 (fun w1 hw1 => ?_)
  exact ⟨(rq (((hF.neg hq1).pos hq2).f hq3)), hw1.ext_out⟩
 refine Ht ?_
 refine Bu dG (k := ?_)
 refine Ht ?_
 refine Dg 49 rfl (fun hq4 => ?_) (fun hq4 => ?_)
 ·refine Ay 16 rfl ?_
  refine uX ?_
  refine Bu (Al Qs) (k := ?_)
  refine lC ?_
  refine Ht ?_
  refine Dg 72 rfl (fun hq5 => ?_) (fun hq5 => ?_)
  ·refine Ay 4 rfl ?_
   refine vW ?_
   refine Ay 7 rfl ?_
   refine uX ?_
   refine qX ?_
   refine Dg 92 rfl (fun hq6 => ?_) (fun hq6 => ?_)
   ·refine Ay 5 rfl ?_
    refine lM ?_
    refine Aa results5 z0 (fun w1 hw1 => ?_)
    exact ⟨(rq ((((((hF.neg hq1).pos hq2).t hq3).pos hq4).pos hq5).pos hq6)), hw1.ext_out⟩
   refine mE ?_
   refine Z44 ?_
   refine qY ?_
   refine Aa results5 z0 (fun w1 hw1 => ?_)
   exact ⟨(rq ((((((hF.neg hq1).pos hq2).t hq3).pos hq4).pos hq5).neg hq6)), hw1.ext_out⟩
  refine Ht ?_
  refine N5 ?_
  refine vV ?_
  refine Dg 78 rfl (fun hq7 => ?_) (fun hq7 => ?_)
  ·refine Ay 7 rfl ?_
   refine uX ?_
   refine qX ?_
   refine Dg 92 rfl (fun hq8 => ?_) (fun hq8 => ?_)
   ·refine Ay 5 rfl ?_
    refine lM ?_
    refine Aa results5 z0 (fun w1 hw1 => ?_)
    exact ⟨(rq (((((((hF.neg hq1).pos hq2).t hq3).pos hq4).neg hq5).pos hq7).pos hq8)), hw1.ext_out⟩
   refine mE ?_
   refine Z44 ?_
   refine qY ?_
   refine Aa results5 z0 (fun w1 hw1 => ?_)
   exact ⟨(rq (((((((hF.neg hq1).pos hq2).t hq3).pos hq4).neg hq5).pos hq7).neg hq8)), hw1.ext_out⟩
  refine rV ?_
  refine rV ?_
  refine BC2 ?_
  refine wL ?_
  refine Ub ?_
  refine eJ ?_
  refine Fp 88 rfl (fun hq9 => ?_) (fun hq9 => ?_)
  rotate_left
  ·refine Ay 10 rfl ?_
   refine Ks ?_
   refine Aa results5 z0 (fun w1 hw1 => ?_)
   exact ⟨(rq (((((((hF.neg hq1).pos hq2).t hq3).pos hq4).neg hq5).neg hq7).f hq9)), hw1.ext_out⟩
  refine qX ?_
  refine Dg 92 rfl (fun hq10 => ?_) (fun hq10 => ?_)
  ·refine Ay 5 rfl ?_
   refine lM ?_
   refine Aa results5 z0 (fun w1 hw1 => ?_)
   exact ⟨(rq ((((((((hF.neg hq1).pos hq2).t hq3).pos hq4).neg hq5).neg hq7).t hq9).pos hq10)), hw1.ext_out⟩
  refine mE ?_
  refine Z44 ?_
  refine qY ?_
  refine Aa results5 z0 (fun w1 hw1 => ?_)
  exact ⟨(rq ((((((((hF.neg hq1).pos hq2).t hq3).pos hq4).neg hq5).neg hq7).t hq9).neg hq10)), hw1.ext_out⟩
 refine Bu (Al zQ) (k := ?_)
 refine lQ ?_
 refine N5 ?_
 refine Ht ?_
 refine Dg 55 rfl (fun hq11 => ?_) (fun hq11 => ?_)
 rotate_left
 ·refine Ay 4 rfl ?_
  refine vV ?_
  refine Ay 3 rfl ?_
  refine Ub ?_
  refine Ub ?_
  refine eJ ?_
  refine Ay 18 rfl ?_
  refine oI ?_
  refine Ay 10 rfl ?_
  refine Ks ?_
  refine Aa results5 z0 (fun w1 hw1 => ?_)
  exact ⟨(rq (((((hF.neg hq1).pos hq2).t hq3).neg hq4).neg hq11)), hw1.ext_out⟩
 refine mE ?_
 refine lQ ?_
 refine Ms (Ac call20) (fun w1 hw1 => Ld w1 (s := (Am s)) (stream := ((Aq f).stream)) (h_s_opn := (ho1_1.slj Ba) w1 hw1) (n_s_opn := z1)) (k := ?_)
 refine vW ?_
 refine Fp 61 rfl (fun hq12 => ?_) (fun hq12 => ?_)
 rotate_left
 ·refine Ay 3 rfl ?_
  refine Ub ?_
  refine Ub ?_
  refine eJ ?_
  refine Ay 18 rfl ?_
  refine oI ?_
  refine Ay 10 rfl ?_
  refine Ks ?_
  refine Aa results5 z0 (fun w1 hw1 => ?_)
  exact ⟨(rq ((((((hF.neg hq1).pos hq2).t hq3).neg hq4).pos hq11).f hq12)), hw1.ext_out⟩
 refine Bu z75 (k := ?_)
 refine lC ?_
 refine iX ?_
 refine Ub ?_
 refine eJ ?_
 refine Dg 68 rfl (fun hq13 => ?_) (fun hq13 => ?_)
 rotate_left
 ·refine Ay 18 rfl ?_
  refine oI ?_
  refine Ay 10 rfl ?_
  refine Ks ?_
  refine Aa results5 z0 (fun w1 hw1 => ?_)
  exact ⟨(rq (((((((hF.neg hq1).pos hq2).t hq3).neg hq4).pos hq11).t hq12).neg hq13)), hw1.ext_out⟩
 refine Bu (Al Qs) (k := ?_)
 refine lC ?_
 refine Ht ?_
 refine Dg 72 rfl (fun hq14 => ?_) (fun hq14 => ?_)
 ·refine Ay 4 rfl ?_
  refine vW ?_
  refine Ay 7 rfl ?_
  refine uX ?_
  refine qX ?_
  refine Dg 92 rfl (fun hq15 => ?_) (fun hq15 => ?_)
  ·refine Ay 5 rfl ?_
   refine lM ?_
   refine Aa results5 z0 (fun w1 hw1 => ?_)
   exact ⟨(rq (((((((((hF.neg hq1).pos hq2).t hq3).neg hq4).pos hq11).t hq12).pos hq13).pos hq14).pos hq15)), hw1.ext_out⟩
  refine mE ?_
  refine Z44 ?_
  refine qY ?_
  refine Aa results5 z0 (fun w1 hw1 => ?_)
  exact ⟨(rq (((((((((hF.neg hq1).pos hq2).t hq3).neg hq4).pos hq11).t hq12).pos hq13).pos hq14).neg hq15)), hw1.ext_out⟩
 refine Ht ?_
 refine N5 ?_
 refine vV ?_
 refine Dg 78 rfl (fun hq16 => ?_) (fun hq16 => ?_)
 ·refine Ay 7 rfl ?_
  refine uX ?_
  refine qX ?_
  refine Dg 92 rfl (fun hq17 => ?_) (fun hq17 => ?_)
  ·refine Ay 5 rfl ?_
   refine lM ?_
   refine Aa results5 z0 (fun w1 hw1 => ?_)
   exact ⟨(rq ((((((((((hF.neg hq1).pos hq2).t hq3).neg hq4).pos hq11).t hq12).pos hq13).neg hq14).pos hq16).pos hq17)), hw1.ext_out⟩
  refine mE ?_
  refine Z44 ?_
  refine qY ?_
  refine Aa results5 z0 (fun w1 hw1 => ?_)
  exact ⟨(rq ((((((((((hF.neg hq1).pos hq2).t hq3).neg hq4).pos hq11).t hq12).pos hq13).neg hq14).pos hq16).neg hq17)), hw1.ext_out⟩
 refine rV ?_
 refine rV ?_
 refine BC2 ?_
 refine wL ?_
 refine Ub ?_
 refine eJ ?_
 refine Fp 88 rfl (fun hq18 => ?_) (fun hq18 => ?_)
 rotate_left
 ·refine Ay 10 rfl ?_
  refine Ks ?_
  refine Aa results5 z0 (fun w1 hw1 => ?_)
  exact ⟨(rq ((((((((((hF.neg hq1).pos hq2).t hq3).neg hq4).pos hq11).t hq12).pos hq13).neg hq14).neg hq16).f hq18)), hw1.ext_out⟩
 refine qX ?_
 refine Dg 92 rfl (fun hq19 => ?_) (fun hq19 => ?_)
 ·refine Ay 5 rfl ?_
  refine lM ?_
  refine Aa results5 z0 (fun w1 hw1 => ?_)
  exact ⟨(rq (((((((((((hF.neg hq1).pos hq2).t hq3).neg hq4).pos hq11).t hq12).pos hq13).neg hq14).neg hq16).t hq18).pos hq19)), hw1.ext_out⟩
 refine mE ?_
 refine Z44 ?_
 refine qY ?_
 refine Aa results5 z0 (fun w1 hw1 => ?_)
 exact ⟨(rq (((((((((((hF.neg hq1).pos hq2).t hq3).neg hq4).pos hq11).t hq12).pos hq13).neg hq14).neg hq16).t hq18).neg hq19)), hw1.ext_out⟩

end Go.Proofs.YtdnjanhdnibkfaaGreatDoor.Jd

namespace Go.Proofs.YtdnjanhdnibkfaaGreatDoor.Jd
open Go.Proofs.Tryz
set_option maxRecDepth 100000
set_option linter.unusedVariables false
set_option linter.unusedSimpArgs false
theorem Wk (s : Session) (f : Frame) (r : Bk) (now other : Int) : Ig s f r now other = true := by
  unfold Ig
  simp only [Jo, if_true]
  have h := Wg (Am s) (Aq f) (Br r) now
  generalize Aj (Am s) (Aq f) (Br r) now = x at h ⊢
  generalize Am s = t at h ⊢
  generalize Aq f = g at h ⊢
  cases h with
  | badS h => simp
  | badF h hf2 => simp
  | dead h hf hp => simp [Wc]
  | ping h hf hp hk => simp [Wc]
  | hello h hf hp hk =>
    have : ∀ n, Dp (Session.mk 1 g.data t.handle t.a t.b t.opn) n = Dp t n := fun n => iD Iff.rfl
    simp [Wc, this]
  | dies h hf hp hk => simp [uW]
  | ready h hf hc =>
    have : ∀ n, Dp (Session.mk 2 t.name (Ce (Br r) t.name).1.handle t.a t.b t.opn) n = Dp t n := fun n => iD Iff.rfl
    simp [this]
  | opened h hf hc =>
    by_cases e : other = g.stream
    · simp [e]
    · have : Dp (eZ t g.stream) other = Dp t other := iD (by
        show other ∈ Mz _ _ _ ↔ _
        rw [cG]
        exact ⟨fun h => h.resolve_left e, .inr⟩)
      simp [this]
  | refused h hf hp hk hm => simp [Wc]
  | asks h hf hp hk hh a ha hs =>
    have h1 : ¬ a.kind = 6 := by omega
    have h2 : ¬ a.kind = 5 := by omega
    have h3 : a.kind ≤ 5 := by omega
    simp [ha.1, h1, h2, h3, hs, hh, hp]
  | reset h hf hp hk hh =>
    have e1 : Dp (cE t g.stream) g.stream = false := oF.2 fun h => (kS.1 h).2 rfl
    by_cases e : other = g.stream
    · simp [e, hh, hp, e1]
    · have e3 : Dp (cE t g.stream) other = Dp t other := (iD ⟨fun h => kS.2 ⟨h, e⟩, fun h => (kS.1 h).1⟩).symm
      simp [e3, hh, hp, e1]
  | gone h hf hp hk hh => simp [Wc]
end Go.Proofs.YtdnjanhdnibkfaaGreatDoor.Jd

