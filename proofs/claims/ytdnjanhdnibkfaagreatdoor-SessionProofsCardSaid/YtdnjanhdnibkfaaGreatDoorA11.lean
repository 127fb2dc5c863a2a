/- Part of the proofs of this seat: walks and plain facts. No condition. -/
import Derived.Test.YtdnjanhdnibkfaaGreatDoorA0
import Derived.Test.YtdnjanhdnibkfaaGreatDoorProg
import Derived.Test.YtdnjanhdnibkfaaGreatDoorA5
import Derived.Test.YtdnjanhdnibkfaaGreatDoorA4
import Derived.Test.YtdnjanhdnibkfaaGreatDoorA6
import Derived.Test.YtdnjanhdnibkfaaGreatDoorA2
import Derived.Test.YtdnjanhdnibkfaaGreatDoorA1
import Derived.Test.YtdnjanhdnibkfaaGreatDoorA3
namespace Go.Proofs.YtdnjanhdnibkfaaGreatDoor.Jd
open Go.Proofs.Tryz
set_option linter.unusedVariables false
set_option linter.unusedSimpArgs false
section
variable {p q : Prop}
theorem I4 (k : q) (h : Aw q → p := by intro z; refine Dk _ (sk (sa (sa (sk (sk (sa (sa (sd (sk sz))))))))) ?_; refine Sd ?_; exact z.1) : p := h ⟨k⟩
theorem gL (k : q) (h : Aw q → p := by intro z; refine El ?_; refine Ar (pI runUnderlying4) (k := ?_); refine Jh ?_; exact z.1) : p := h ⟨k⟩
theorem gM (k : q) (h : Aw q → p := by intro z; refine Z5 ?_; refine Ab 16 rfl ?_; refine Hz ?_; exact z.1) : p := h ⟨k⟩
theorem AA5 (k : q) (h : Aw q → p := by intro z; refine El ?_; refine Ab 12 rfl ?_; exact z.1) : p := h ⟨k⟩
end
open Go.Proofs
open Go.RowKit (Below)
set_option maxRecDepth 100000
set_option maxHeartbeats 8000000
set_option linter.unusedVariables false
set_option linter.unusedSimpArgs false
def Jg (s : Session) (f : Frame) (r : Bk) (now : Int) : Bool := (if ((Aj (Am s) (Aq f) (Br r) now).2.2.2) ≠ 0 then (if Ds = true then decide (((Aj (Am s) (Aq f) (Br r) now).2.2.1.kind) ≠ 7) else false) else (if ((Am s).phase) = 2 then (if Ds = true then decide (((Aj (Am s) (Aq f) (Br r) now).2.2.1.kind) ≠ 7) else false) else (if ((Am s).phase) = 1 then (if ((Aq f).kind) = 2 then (if ((Ce (Br r) ((Am s).name)).2) = true then (if ((Ce (Br r) ((Am s).name)).1.state) = 1 then (if ((Ic ((Am s).a) ((Am s).b)).2) = 0 then (if Ds = true then (if (decide (((Aj (Am s) (Aq f) (Br r) now).1.phase) = 2) == ((Nt ((Ce (Br r) ((Am s).name)).1.creds) now ((Ic ((Am s).a) ((Am s).b)).1) ((Am s).name) ((Aq f).data)).2)) = true then (if (decide (((Aj (Am s) (Aq f) (Br r) now).2.2.1.kind) = 7) == ((Nt ((Ce (Br r) ((Am s).name)).1.creds) now ((Ic ((Am s).a) ((Am s).b)).1) ((Am s).name) ((Aq f).data)).2)) = true then (if (!((Nt ((Ce (Br r) ((Am s).name)).1.creds) now ((Ic ((Am s).a) ((Am s).b)).1) ((Am s).name) ((Aq f).data)).2)) = true then true else (if ((Aj (Am s) (Aq f) (Br r) now).1.handle.slot) = ((Ce (Br r) ((Am s).name)).1.handle.slot) ∧ ((Aj (Am s) (Aq f) (Br r) now).1.handle.gen) = ((Ce (Br r) ((Am s).name)).1.handle.gen) then decide (((Aj (Am s) (Aq f) (Br r) now).1.name) = ((Am s).name)) else false)) else false) else false) else false) else (if Ds = true then (if (decide (((Aj (Am s) (Aq f) (Br r) now).1.phase) = 2) == false) = true then (if (decide (((Aj (Am s) (Aq f) (Br r) now).2.2.1.kind) = 7) == false) = true then true else false) else false) else false)) else (if Ds = true then (if (decide (((Aj (Am s) (Aq f) (Br r) now).1.phase) = 2) == false) = true then (if (decide (((Aj (Am s) (Aq f) (Br r) now).2.2.1.kind) = 7) == false) = true then true else false) else false) else false)) else (if Ds = true then (if (decide (((Aj (Am s) (Aq f) (Br r) now).1.phase) = 2) == false) = true then (if (decide (((Aj (Am s) (Aq f) (Br r) now).2.2.1.kind) = 7) == false) = true then true else false) else false) else false)) else (if Ds = true then (if (decide (((Aj (Am s) (Aq f) (Br r) now).1.phase) = 2) == false) = true then (if (decide (((Aj (Am s) (Aq f) (Br r) now).2.2.1.kind) = 7) == false) = true then true else false) else false) else false)) else (if Ds = true then (if (decide (((Aj (Am s) (Aq f) (Br r) now).1.phase) = 2) == false) = true then (if (decide (((Aj (Am s) (Aq f) (Br r) now).2.2.1.kind) = 7) == false) = true then true else false) else false) else false))))
end Go.Proofs.YtdnjanhdnibkfaaGreatDoor.Jd

namespace Go.Proofs.YtdnjanhdnibkfaaGreatDoor.Jd
open Go.Proofs.Tryz
open Go.Proofs
open Go.RowKit (Below)
set_option maxRecDepth 100000
set_option maxHeartbeats 8000000
set_option linter.unusedVariables false
set_option linter.unusedSimpArgs false
theorem cN (w : World) {s_opn_a : Option Addr} {s_opn_c : Nat} {r_Sg_a : Option Addr} {r_Sg_c : Nat} {r_Su_a : Option Addr} {r_Su_c : Nat} {r_Sf_a : Option Addr} {r_Sf_c : Nat} {r_l_a : Option Addr} {r_l_c : Nat} {r_l_t : List TA} {ea0 : Addr} {ea1 : Addr} {ea2 : Addr} {ea3 : Addr} {ea4 : Addr} {ea5 : Addr} {ea6 : Addr} {ea7 : Addr} {ea8 : Addr} {ea9 : Addr} {ea10 : Addr} {ea11 : Addr} {ea12 : Addr} {ea13 : Addr} {ea14 : Addr} {ea15 : Addr} {s : Session} {f : Frame} {r : Bk} {now : Int} (i_s_a : -9223372036854775808 ≤ s.a ∧ s.a ≤ 9223372036854775807) (i_s_b : -9223372036854775808 ≤ s.b ∧ s.b ≤ 9223372036854775807) (h_s_opn : Sl w eI 1 s_opn_a s.opn) (k_s_opn : s.opn.length ≤ s_opn_c) (h_r_Sg : Sl w eI 1 r_Sg_a r.slots.gens) (k_r_Sg : r.slots.gens.length ≤ r_Sg_c) (h_r_Su : Sl w eB 1 r_Su_a r.slots.used) (k_r_Su : r.slots.used.length ≤ r_Su_c) (h_r_Sf : Sl w eI 1 r_Sf_a r.slots.free) (k_r_Sf : r.slots.free.length ≤ r_Sf_c) (h_r_l : Yz w Ef 8 DT r_l_a r.l r_l_t) (k_r_l : r.l.length ≤ r_l_c) (hG : Gl w) (hE : Er w ea0 ea1 ea2 ea3 ea4 ea5 ea6 ea7 ea8 ea9 ea10 ea11 ea12 ea13 ea14 ea15) : Ha Tryz.prog 3 [(Value.agg [(vi s.phase), (vt s.name), (vi s.handle.slot), (vi s.handle.gen), (vi s.a), (vi s.b), (vs s_opn_a s.opn.length s_opn_c)].toArray), (Value.agg [(vi f.kind), (vi f.stream), (vt f.data)].toArray), (Value.agg [(vs r_Sg_a r.slots.gens.length r_Sg_c), (vs r_Su_a r.slots.used.length r_Su_c), (vs r_Sf_a r.slots.free.length r_Sf_c), (vs r_l_a r.l.length r_l_c), (vi r.seq)].toArray), (vi now)] w (Value.bool (Jg s f r now)) := by
 have hF := Is.refl (Jg s f r now)
 refine enter func3 ntmps3 (h := ?_)
 refine Z2 ?_
 refine Ak Ag oH (k := fun r1 hr1 => ?_)
 refine Ak Ag Ll (k := fun r2 hr2 => ?_)
 refine Ak Ag mH (k := fun r3 hr3 => ?_)
 refine Z1 ?_
 refine A7 ?_
 refine Z1 ?_
 refine A0 ?_
 rintro w1_1 e1_1 w2_1 hw1_1 ⟨a1_1, c1_1, B1_1, he_1, hf_1, ho1_1, hl1_1⟩
 refine ⟨_, _, he_1, hw1_1.fresh hf_1, ?_⟩
 have hct_14047 := Me s; have hcq_14047 := Pw s
 refine vP ?_
 refine Z2 ?_
 refine AD2 ?_
 have hcf_31844 := Ti f
 refine AH4 ?_
 refine Z77 ?_
 rintro w1_2 e1_2 w2_2 hw1_2 ⟨a1_2, c1_2, t1_2, B_2, he_2, hf_2, hs1_2, hl1_2⟩
 refine ⟨_, _, he_2, hw1_2.fresh hf_2, ?_⟩
 have hcb_2 := cH r
 have hsm_2 := Px r
 refine M4 ?_
 refine rE ?_
 refine A9 ?_
 refine Z34 ?_
 rintro w1_3 e1_3 w2_3 hw1_3 ⟨a1_3, c1_3, a2_3, c2_3, B_3, he_3, hf_3, hs1_3, hs2_3, hl1_3, hl2_3⟩
 refine ⟨_, _, he_3, hw1_3.fresh hf_3, ?_⟩
 refine Kf ?_
 refine K0 ?_
 refine Ak Ag mG (k := fun r4 hr4 => ?_)
 refine Ak Ag z36 (k := fun r5 hr5 => ?_)
 refine fC ?_
 refine Iv ?_
 refine D0 ?_
 refine Ao 40 rfl (fun hq1 => ?_) (fun hq1 => ?_)
 ·refine Ab 3 rfl ?_
  refine rG ?_
  refine Ku rfl ?_
  refine Hp ?_
  refine Bo 46 rfl (fun hq2 => ?_) (fun hq2 => ?_)
  rotate_left
  ·refine Ab 3 rfl ?_
   refine Sg ?_
   refine Aa results3 z0 (fun w1 hw1 => ?_)
   exact ⟨(rq ((hF.pos hq1).f hq2)), hw1.ext_out⟩
  refine fJ ?_
  refine Xc ?_
  refine Aa results3 z0 (fun w1 hw1 => ?_)
  exact ⟨(rq ((hF.pos hq1).t hq2)), hw1.ext_out⟩
 refine cQ ?_
 refine Pe ?_
 refine Bi rfl (fun hq3 => ?_) (fun hq3 => ?_)
 ·refine Cb ?_
  refine Sd ?_
  refine Bo 46 rfl (fun hq4 => ?_) (fun hq4 => ?_)
  rotate_left
  ·refine Ab 3 rfl ?_
   refine Sg ?_
   refine Aa results3 z0 (fun w1 hw1 => ?_)
   exact ⟨(rq (((hF.neg hq1).pos hq3).f hq4)), hw1.ext_out⟩
  refine fJ ?_
  refine Xc ?_
  refine Aa results3 z0 (fun w1 hw1 => ?_)
  exact ⟨(rq (((hF.neg hq1).pos hq3).t hq4)), hw1.ext_out⟩
 refine Py ?_
 refine Se ?_
 refine pF ?_
 refine BE3 ?_
 rintro w1_4 e1_4 w2_4 hw1_4 ⟨a1_4, c1_4, a2_4, c2_4, B1_4, B2_4, he_4, hf_4, ho1_4, ho2_4, hl1_4, hl2_4⟩
 refine ⟨_, _, he_4, (hw1_4.fresh hf_4).perm (eqp (nA rfl)), ?_⟩
 refine Kf ?_
 refine Ak Ag eG (k := fun r6 hr6 => ?_)
 refine vN ?_
 refine Dk _ (sk (sa (sa (sk (sk (sa (sx (sa (sd (sk (sk sz))))))))))) ?_
 refine Cp ?_
 refine Af (Al Qq) (k := ?_)
 refine It ?_
 refine Af (Al Qr) (k := ?_)
 refine It ?_
 refine Cy (Ac call16) (fun w1 hw1 => uG w1 (a := ((Am s).a)) (b := ((Am s).b)) (i_a := z1) (i_b := z1) (hG := hG.ext hw1.ext_out) (hE := hE.ext hw1.ext_out)) (k := ?_)
 have hch_30235 := Pb ((Am s).a) ((Am s).b)
 refine Kf ?_
 refine Lq ?_
 refine Z2 ?_
 refine Af (Al Wt) (k := ?_)
 refine Af (Bm isAgg48) (k := ?_)
 refine Sf ?_
 refine AH3 ?_
 refine iH ?_
 refine Cy (Ac call17) (fun w1 hw1 => nL w1 (l := ((Ce (Br r) ((Am s).name)).1.creds)) (now := now) (challenge := ((Ic ((Am s).a) ((Am s).b)).1)) (name := ((Am s).name)) (proof := ((Aq f).data)) (h_l := (ho2_4.slj Ey) w1 hw1) (n_l := z1) (n_name := z1) (n_proof := z1) (hG := hG.ext hw1.ext_out) (hE := hE.ext hw1.ext_out)) (k := ?_)
 refine Kf ?_
 refine Lq ?_
 refine Z2 ?_
 refine iJ ?_
 refine sH ?_
 refine Ao 81 rfl (fun hq5 => ?_) (fun hq5 => ?_)
 rotate_left
 ·refine Ab 3 rfl ?_
  refine cX ?_
  refine oJ ?_
  refine Uv ?_
  refine cX ?_
  refine Xd ?_
  refine I4 ?_
  refine Bo 102 rfl (fun hq27 => ?_) (fun hq27 => ?_)
  rotate_left
  ·refine Ab 5 rfl ?_
   refine Ou ?_
   refine gM ?_
   refine Aa results3 z0 (fun w1 hw1 => ?_)
   exact ⟨(rq ((((hF.neg hq1).neg hq3).neg hq5).f hq27)), hw1.ext_out⟩
  refine cQ ?_
  refine gL ?_
  refine Bo 109 rfl (fun hq28 => ?_) (fun hq28 => ?_)
  rotate_left
  ·refine Ab 5 rfl ?_
   refine gM ?_
   refine Aa results3 z0 (fun w1 hw1 => ?_)
   exact ⟨(rq (((((hF.neg hq1).neg hq3).neg hq5).t hq27).f hq28)), hw1.ext_out⟩
  refine fK ?_
  refine gL ?_
  refine Bo 116 rfl (fun hq29 => ?_) (fun hq29 => ?_)
  rotate_left
  ·refine Ab 16 rfl ?_
   refine Hz ?_
   refine Aa results3 z0 (fun w1 hw1 => ?_)
   exact ⟨(rq ((((((hF.neg hq1).neg hq3).neg hq5).t hq27).t hq28).f hq29)), hw1.ext_out⟩
  refine sG ?_
  refine AA5 ?_
  refine wC ?_
  refine Aa results3 z0 (fun w1 hw1 => ?_)
  exact ⟨(rq ((((((hF.neg hq1).neg hq3).neg hq5).t hq27).t hq28).t hq29)), hw1.ext_out⟩
 refine Ar (Al Ww) (k := ?_)
 refine fS ?_
 refine Ao 86 rfl (fun hq6 => ?_) (fun hq6 => ?_)
 rotate_left
 ·refine Qe (k := ?_)
  refine oJ ?_
  refine Uv ?_
  refine cX ?_
  refine Xd ?_
  refine I4 ?_
  refine Bo 102 rfl (fun hq24 => ?_) (fun hq24 => ?_)
  rotate_left
  ·refine Ab 5 rfl ?_
   refine Ou ?_
   refine gM ?_
   refine Aa results3 z0 (fun w1 hw1 => ?_)
   exact ⟨(rq (((((hF.neg hq1).neg hq3).pos hq5).neg hq6).f hq24)), hw1.ext_out⟩
  refine cQ ?_
  refine gL ?_
  refine Bo 109 rfl (fun hq25 => ?_) (fun hq25 => ?_)
  rotate_left
  ·refine Ab 5 rfl ?_
   refine gM ?_
   refine Aa results3 z0 (fun w1 hw1 => ?_)
   exact ⟨(rq ((((((hF.neg hq1).neg hq3).pos hq5).neg hq6).t hq24).f hq25)), hw1.ext_out⟩
  refine fK ?_
  refine gL ?_
  refine Bo 116 rfl (fun hq26 => ?_) (fun hq26 => ?_)
  rotate_left
  ·refine Ab 16 rfl ?_
   refine Hz ?_
   refine Aa results3 z0 (fun w1 hw1 => ?_)
   exact ⟨(rq (((((((hF.neg hq1).neg hq3).pos hq5).neg hq6).t hq24).t hq25).f hq26)), hw1.ext_out⟩
  refine sG ?_
  refine AA5 ?_
  refine wC ?_
  refine Aa results3 z0 (fun w1 hw1 => ?_)
  exact ⟨(rq (((((((hF.neg hq1).neg hq3).pos hq5).neg hq6).t hq24).t hq25).t hq26)), hw1.ext_out⟩
 refine wD ?_
 refine Bo 89 rfl (fun hq7 => ?_) (fun hq7 => ?_)
 rotate_left
 ·refine Ab 3 rfl ?_
  refine Uv ?_
  refine cX ?_
  refine Xd ?_
  refine I4 ?_
  refine Bo 102 rfl (fun hq21 => ?_) (fun hq21 => ?_)
  rotate_left
  ·refine Ab 5 rfl ?_
   refine Ou ?_
   refine gM ?_
   refine Aa results3 z0 (fun w1 hw1 => ?_)
   exact ⟨(rq ((((((hF.neg hq1).neg hq3).pos hq5).pos hq6).f hq7).f hq21)), hw1.ext_out⟩
  refine cQ ?_
  refine gL ?_
  refine Bo 109 rfl (fun hq22 => ?_) (fun hq22 => ?_)
  rotate_left
  ·refine Ab 5 rfl ?_
   refine gM ?_
   refine Aa results3 z0 (fun w1 hw1 => ?_)
   exact ⟨(rq (((((((hF.neg hq1).neg hq3).pos hq5).pos hq6).f hq7).t hq21).f hq22)), hw1.ext_out⟩
  refine fK ?_
  refine gL ?_
  refine Bo 116 rfl (fun hq23 => ?_) (fun hq23 => ?_)
  rotate_left
  ·refine Ab 16 rfl ?_
   refine Hz ?_
   refine Aa results3 z0 (fun w1 hw1 => ?_)
   exact ⟨(rq ((((((((hF.neg hq1).neg hq3).pos hq5).pos hq6).f hq7).t hq21).t hq22).f hq23)), hw1.ext_out⟩
  refine sG ?_
  refine AA5 ?_
  refine wC ?_
  refine Aa results3 z0 (fun w1 hw1 => ?_)
  exact ⟨(rq ((((((((hF.neg hq1).neg hq3).pos hq5).pos hq6).f hq7).t hq21).t hq22).t hq23)), hw1.ext_out⟩
 refine Ar (Al Qp) (k := ?_)
 refine fS ?_
 refine Ao 94 rfl (fun hq8 => ?_) (fun hq8 => ?_)
 rotate_left
 ·refine Ab 2 rfl ?_
  refine cX ?_
  refine Xd ?_
  refine I4 ?_
  refine Bo 102 rfl (fun hq18 => ?_) (fun hq18 => ?_)
  rotate_left
  ·refine Ab 5 rfl ?_
   refine Ou ?_
   refine gM ?_
   refine Aa results3 z0 (fun w1 hw1 => ?_)
   exact ⟨(rq (((((((hF.neg hq1).neg hq3).pos hq5).pos hq6).t hq7).neg hq8).f hq18)), hw1.ext_out⟩
  refine cQ ?_
  refine gL ?_
  refine Bo 109 rfl (fun hq19 => ?_) (fun hq19 => ?_)
  rotate_left
  ·refine Ab 5 rfl ?_
   refine gM ?_
   refine Aa results3 z0 (fun w1 hw1 => ?_)
   exact ⟨(rq ((((((((hF.neg hq1).neg hq3).pos hq5).pos hq6).t hq7).neg hq8).t hq18).f hq19)), hw1.ext_out⟩
  refine fK ?_
  refine gL ?_
  refine Bo 116 rfl (fun hq20 => ?_) (fun hq20 => ?_)
  rotate_left
  ·refine Ab 16 rfl ?_
   refine Hz ?_
   refine Aa results3 z0 (fun w1 hw1 => ?_)
   exact ⟨(rq (((((((((hF.neg hq1).neg hq3).pos hq5).pos hq6).t hq7).neg hq8).t hq18).t hq19).f hq20)), hw1.ext_out⟩
  refine sG ?_
  refine AA5 ?_
  refine wC ?_
  refine Aa results3 z0 (fun w1 hw1 => ?_)
  exact ⟨(rq (((((((((hF.neg hq1).neg hq3).pos hq5).pos hq6).t hq7).neg hq8).t hq18).t hq19).t hq20)), hw1.ext_out⟩
 refine cP ?_
 refine Jh ?_
 refine Ao 98 rfl (fun hq9 => ?_) (fun hq9 => ?_)
 rotate_left
 ·refine Qe (k := ?_)
  refine Xd ?_
  refine I4 ?_
  refine Bo 102 rfl (fun hq15 => ?_) (fun hq15 => ?_)
  rotate_left
  ·refine Ab 5 rfl ?_
   refine Ou ?_
   refine gM ?_
   refine Aa results3 z0 (fun w1 hw1 => ?_)
   exact ⟨(rq ((((((((hF.neg hq1).neg hq3).pos hq5).pos hq6).t hq7).pos hq8).neg hq9).f hq15)), hw1.ext_out⟩
  refine cQ ?_
  refine gL ?_
  refine Bo 109 rfl (fun hq16 => ?_) (fun hq16 => ?_)
  rotate_left
  ·refine Ab 5 rfl ?_
   refine gM ?_
   refine Aa results3 z0 (fun w1 hw1 => ?_)
   exact ⟨(rq (((((((((hF.neg hq1).neg hq3).pos hq5).pos hq6).t hq7).pos hq8).neg hq9).t hq15).f hq16)), hw1.ext_out⟩
  refine fK ?_
  refine gL ?_
  refine Bo 116 rfl (fun hq17 => ?_) (fun hq17 => ?_)
  rotate_left
  ·refine Ab 16 rfl ?_
   refine Hz ?_
   refine Aa results3 z0 (fun w1 hw1 => ?_)
   exact ⟨(rq ((((((((((hF.neg hq1).neg hq3).pos hq5).pos hq6).t hq7).pos hq8).neg hq9).t hq15).t hq16).f hq17)), hw1.ext_out⟩
  refine sG ?_
  refine AA5 ?_
  refine wC ?_
  refine Aa results3 z0 (fun w1 hw1 => ?_)
  exact ⟨(rq ((((((((((hF.neg hq1).neg hq3).pos hq5).pos hq6).t hq7).pos hq8).neg hq9).t hq15).t hq16).t hq17)), hw1.ext_out⟩
 refine El ?_
 refine aK ?_
 refine Ik ?_
 refine I4 ?_
 refine Bo 102 rfl (fun hq10 => ?_) (fun hq10 => ?_)
 rotate_left
 ·refine Ab 5 rfl ?_
  refine Ou ?_
  refine gM ?_
  refine Aa results3 z0 (fun w1 hw1 => ?_)
  exact ⟨(rq ((((((((hF.neg hq1).neg hq3).pos hq5).pos hq6).t hq7).pos hq8).pos hq9).f hq10)), hw1.ext_out⟩
 refine cQ ?_
 refine gL ?_
 refine Bo 109 rfl (fun hq11 => ?_) (fun hq11 => ?_)
 rotate_left
 ·refine Ab 5 rfl ?_
  refine gM ?_
  refine Aa results3 z0 (fun w1 hw1 => ?_)
  exact ⟨(rq (((((((((hF.neg hq1).neg hq3).pos hq5).pos hq6).t hq7).pos hq8).pos hq9).t hq10).f hq11)), hw1.ext_out⟩
 refine fK ?_
 refine gL ?_
 refine Bo 116 rfl (fun hq12 => ?_) (fun hq12 => ?_)
 rotate_left
 ·refine Ab 16 rfl ?_
  refine Hz ?_
  refine Aa results3 z0 (fun w1 hw1 => ?_)
  exact ⟨(rq ((((((((((hF.neg hq1).neg hq3).pos hq5).pos hq6).t hq7).pos hq8).pos hq9).t hq10).t hq11).f hq12)), hw1.ext_out⟩
 refine sG ?_
 refine El ?_
 refine Bo 119 rfl (fun hq13 => ?_) (fun hq13 => ?_)
 ·refine Ab 12 rfl ?_
  refine wC ?_
  refine Aa results3 z0 (fun w1 hw1 => ?_)
  exact ⟨(rq (((((((((((hF.neg hq1).neg hq3).pos hq5).pos hq6).t hq7).pos hq8).pos hq9).t hq10).t hq11).t hq12).t hq13)), hw1.ext_out⟩
 refine rR ?_
 refine Ar (Al Lc) (k := ?_)
 refine O4 ?_
 refine Ar z81 (k := ?_)
 refine El ?_
 refine Ao 125 rfl (fun hq14 => ?_) (fun hq14 => ?_)
 rotate_left
 ·refine Ab 5 rfl ?_
  refine C8 ?_
  refine Ot ?_
  refine Aa results3 z0 (fun w1 hw1 => ?_)
  exact ⟨(rq ((((((((((((hF.neg hq1).neg hq3).pos hq5).pos hq6).t hq7).pos hq8).pos hq9).t hq10).t hq11).t hq12).f hq13).neg hq14)), hw1.ext_out⟩
 refine oQ ?_
 refine oQ ?_
 refine Ar tF (k := ?_)
 refine Xj ?_
 refine Ys ?_
 refine Ot ?_
 refine Aa results3 z0 (fun w1 hw1 => ?_)
 exact ⟨(rq ((((((((((((hF.neg hq1).neg hq3).pos hq5).pos hq6).t hq7).pos hq8).pos hq9).t hq10).t hq11).t hq12).f hq13).pos hq14)), hw1.ext_out⟩

end Go.Proofs.YtdnjanhdnibkfaaGreatDoor.Jd

namespace Go.Proofs.YtdnjanhdnibkfaaGreatDoor.Jd
open Go.Proofs.Tryz
set_option maxRecDepth 100000
set_option linter.unusedVariables false
set_option linter.unusedSimpArgs false
theorem zX {a b : Int} (ha : 0 ≤ a ∧ a ≤ 2147483647) (hb : 0 ≤ b ∧ b ≤ 2147483647) : (Ic a b).2 = 0 := by
  unfold Ic
  rw [show ([a, b] : List Int).getD 0 default = a from rfl, show ([a, b] : List Int).getD 1 default = b from rfl, if_pos ha.1, if_pos ha.2, if_pos hb.1, if_pos hb.2]
theorem Xq (s : Session) (f : Frame) (r : Bk) (now : Int) : Jg s f r now = true := by
  unfold Jg
  simp only [Jo, if_true]
  have h := Wg (Am s) (Aq f) (Br r) now
  generalize Aj (Am s) (Aq f) (Br r) now = x at h ⊢
  generalize Am s = t at h ⊢
  generalize Aq f = g at h ⊢
  generalize Br r = q at h ⊢
  have no : ∀ (h : Hc t) (hn : ¬ iC t g q now) (p1 : t.phase = 1) (k2 : g.kind = 2) (f2 : (Ce q t.name).2 = true) (s1 : (Ce q t.name).1.state = 1), (Nt (Ce q t.name).1.creds now (Ic t.a t.b).1 t.name g.data).2 = false := fun h hn p1 k2 f2 s1 => by
    cases e : (Nt (Ce q t.name).1.creds now (Ic t.a t.b).1 t.name g.data).2 with
    | false => rfl
    | true => exact absurd ⟨p1, k2, f2, s1, e⟩ hn
  cases h with
  | badS h => simp [Wc]
  | badF h hf2 => simp [Wc]
  | dead h hf hp => simp [Wc, hp]
  | ping h hf hp hk => by_cases p2 : t.phase = 2 <;> simp [Wc, p2, hk]
  | hello h hf hp hk => simp [Wc, hp]
  | dies h hf hp hk hn hm =>
    simp only [zW, uW]
    have h0 := zX h.a h.b
    by_cases p2 : t.phase = 2
    · simp [p2]
    by_cases p1 : t.phase = 1
    rotate_left
    · simp [p1, p2]
    by_cases k2 : g.kind = 2
    rotate_left
    · simp [p1, k2]
    by_cases f2 : (Ce q t.name).2 = true
    rotate_left
    · simp [p1, k2, f2]
    by_cases s1 : (Ce q t.name).1.state = 1
    rotate_left
    · simp [p1, k2, f2, s1]
    have e := no h hn p1 k2 f2 s1
    simp [p1, k2, f2, s1, h0, e]
  | ready h hf hc =>
    have h0 := zX h.a h.b
    simp [hc.phase, hc.kind, hc.found, hc.state, hc.check, h0]
  | opened h hf hc => simp [hc.phase]
  | refused h hf hp hk hm => simp [Wc, hp]
  | asks h hf hp hk hh a ha hs =>
    have h1 : ¬ a.kind = 7 := by omega
    simp [hp, h1]
  | reset h hf hp hk hh => simp [hp]
  | gone h hf hp hk hh => simp [Wc, hp]
end Go.Proofs.YtdnjanhdnibkfaaGreatDoor.Jd

