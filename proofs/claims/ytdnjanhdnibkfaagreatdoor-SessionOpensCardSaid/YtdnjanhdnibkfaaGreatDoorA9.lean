/- Part of the proofs of this seat: walks and plain facts. No condition. -/
import Derived.Test.YtdnjanhdnibkfaaGreatDoorA0
import Derived.Test.YtdnjanhdnibkfaaGreatDoorProg
import Derived.Test.YtdnjanhdnibkfaaGreatDoorA5
import Derived.Test.YtdnjanhdnibkfaaGreatDoorA1
import Derived.Test.YtdnjanhdnibkfaaGreatDoorA4
import Derived.Test.YtdnjanhdnibkfaaGreatDoorA6
import Derived.Test.YtdnjanhdnibkfaaGreatDoorA2
import Derived.Test.YtdnjanhdnibkfaaGreatDoorA3
namespace Go.Proofs.YtdnjanhdnibkfaaGreatDoor.Jd
open Go.Proofs.Tryz
set_option linter.unusedVariables false
set_option linter.unusedSimpArgs false
section
variable {p q : Prop}
theorem mB (k : q) (h : Aw q → p := by intro z; refine Eu ?_; refine Dk _ (sk (sd (sx (sx (sk (sk (sa (sa (sk (sk sz)))))))))) ?_; exact z.1) : p := h ⟨k⟩
theorem mC (k : q) (h : Aw q → p := by intro z; refine Tu ?_; refine Ar Lm (k := ?_); exact z.1) : p := h ⟨k⟩
theorem mD (k : q) (h : Aw q → p := by intro z; refine Ab 7 rfl ?_; refine Sg ?_; exact z.1) : p := h ⟨k⟩
end
open Go.Proofs
open Go.RowKit (Below)
set_option maxRecDepth 100000
set_option maxHeartbeats 8000000
set_option linter.unusedVariables false
set_option linter.unusedSimpArgs false
def Jz (s : Session) (f : Frame) (r : Bk) (now : Int) : Bool := (if ((Aj (Am s) (Aq f) (Br r) now).2.2.2) ≠ 0 then (if Ds = true then decide (((Aj (Am s) (Aq f) (Br r) now).2.2.1.kind) = 0) else false) else (if ((Am s).phase) = 2 then (if ((Aq f).kind) = 3 then (if (!(Dp (Am s) ((Aq f).stream))) = true then (if ((Ce (Br r) ((Am s).name)).2) = true then (if ((Ce (Br r) ((Am s).name)).1.state) = 1 then (if ((Ce (Br r) ((Am s).name)).1.handle.slot) = ((Am s).handle.slot) ∧ ((Ce (Br r) ((Am s).name)).1.handle.gen) = ((Am s).handle.gen) then (if ((Cs ((Aq f).data)).2) = 0 then (if ((Ek ((Ce (Br r) ((Am s).name)).1.rules) ((Cs ((Aq f).data)).1)).1) = true then (if ((Ek ((Ce (Br r) ((Am s).name)).1.rules) ((Cs ((Aq f).data)).1)).2.2) = 0 then (if ¬ (((((Am s).opn.length) : Nat) : Int) < 8) then (if Ds = true then (if ((Aj (Am s) (Aq f) (Br r) now).2.2.1.kind) ≠ 1 then decide (((((Aj (Am s) (Aq f) (Br r) now).1.opn.length) : Nat) : Int) ≤ ((((Am s).opn.length) : Nat) : Int)) else false) else false) else (if Ds = true then (if ((Aj (Am s) (Aq f) (Br r) now).2.2.1.kind) = 1 ∧ ((Aj (Am s) (Aq f) (Br r) now).2.2.1.stream) = ((Aq f).stream) ∧ ((Aj (Am s) (Aq f) (Br r) now).2.2.1.data) = ([] : An) ∧ ((Aj (Am s) (Aq f) (Br r) now).2.2.1.n) = 0 ∧ ((Aj (Am s) (Aq f) (Br r) now).2.2.1.target.addr) = ((Cs ((Aq f).data)).1.addr) ∧ ((Aj (Am s) (Aq f) (Br r) now).2.2.1.target.port) = ((Cs ((Aq f).data)).1.port) then (if (Dp ((Aj (Am s) (Aq f) (Br r) now).1) ((Aq f).stream)) = true then decide (((((Aj (Am s) (Aq f) (Br r) now).1.opn.length) : Nat) : Int) = (((((Am s).opn.length) : Nat) : Int) + 1)) else false) else false) else false)) else (if Ds = true then (if ((Aj (Am s) (Aq f) (Br r) now).2.2.1.kind) ≠ 1 then decide (((((Aj (Am s) (Aq f) (Br r) now).1.opn.length) : Nat) : Int) ≤ ((((Am s).opn.length) : Nat) : Int)) else false) else false)) else (if Ds = true then (if ((Aj (Am s) (Aq f) (Br r) now).2.2.1.kind) ≠ 1 then decide (((((Aj (Am s) (Aq f) (Br r) now).1.opn.length) : Nat) : Int) ≤ ((((Am s).opn.length) : Nat) : Int)) else false) else false)) else (if Ds = true then (if ((Aj (Am s) (Aq f) (Br r) now).2.2.1.kind) ≠ 1 then decide (((((Aj (Am s) (Aq f) (Br r) now).1.opn.length) : Nat) : Int) ≤ ((((Am s).opn.length) : Nat) : Int)) else false) else false)) else (if Ds = true then (if ((Aj (Am s) (Aq f) (Br r) now).2.2.1.kind) ≠ 1 then decide (((((Aj (Am s) (Aq f) (Br r) now).1.opn.length) : Nat) : Int) ≤ ((((Am s).opn.length) : Nat) : Int)) else false) else false)) else (if Ds = true then (if ((Aj (Am s) (Aq f) (Br r) now).2.2.1.kind) ≠ 1 then decide (((((Aj (Am s) (Aq f) (Br r) now).1.opn.length) : Nat) : Int) ≤ ((((Am s).opn.length) : Nat) : Int)) else false) else false)) else (if Ds = true then (if ((Aj (Am s) (Aq f) (Br r) now).2.2.1.kind) ≠ 1 then decide (((((Aj (Am s) (Aq f) (Br r) now).1.opn.length) : Nat) : Int) ≤ ((((Am s).opn.length) : Nat) : Int)) else false) else false)) else (if Ds = true then (if ((Aj (Am s) (Aq f) (Br r) now).2.2.1.kind) ≠ 1 then decide (((((Aj (Am s) (Aq f) (Br r) now).1.opn.length) : Nat) : Int) ≤ ((((Am s).opn.length) : Nat) : Int)) else false) else false)) else (if Ds = true then (if ((Aj (Am s) (Aq f) (Br r) now).2.2.1.kind) ≠ 1 then decide (((((Aj (Am s) (Aq f) (Br r) now).1.opn.length) : Nat) : Int) ≤ ((((Am s).opn.length) : Nat) : Int)) else false) else false)) else (if Ds = true then (if ((Aj (Am s) (Aq f) (Br r) now).2.2.1.kind) ≠ 1 then decide (((((Aj (Am s) (Aq f) (Br r) now).1.opn.length) : Nat) : Int) ≤ ((((Am s).opn.length) : Nat) : Int)) else false) else false)))
end Go.Proofs.YtdnjanhdnibkfaaGreatDoor.Jd

namespace Go.Proofs.YtdnjanhdnibkfaaGreatDoor.Jd
open Go.Proofs.Tryz
open Go.Proofs
open Go.RowKit (Below)
set_option maxRecDepth 100000
set_option maxHeartbeats 8000000
set_option linter.unusedVariables false
set_option linter.unusedSimpArgs false
theorem eC (w : World) {s_opn_a : Option Addr} {s_opn_c : Nat} {r_Sg_a : Option Addr} {r_Sg_c : Nat} {r_Su_a : Option Addr} {r_Su_c : Nat} {r_Sf_a : Option Addr} {r_Sf_c : Nat} {r_l_a : Option Addr} {r_l_c : Nat} {r_l_t : List TA} {ea0 : Addr} {ea1 : Addr} {ea2 : Addr} {ea3 : Addr} {ea4 : Addr} {ea5 : Addr} {ea6 : Addr} {ea7 : Addr} {ea8 : Addr} {ea9 : Addr} {ea10 : Addr} {ea11 : Addr} {ea12 : Addr} {ea13 : Addr} {ea14 : Addr} {ea15 : Addr} {s : Session} {f : Frame} {r : Bk} {now : Int} (h_s_opn : Sl w eI 1 s_opn_a s.opn) (k_s_opn : s.opn.length ≤ s_opn_c) (h_r_Sg : Sl w eI 1 r_Sg_a r.slots.gens) (k_r_Sg : r.slots.gens.length ≤ r_Sg_c) (h_r_Su : Sl w eB 1 r_Su_a r.slots.used) (k_r_Su : r.slots.used.length ≤ r_Su_c) (h_r_Sf : Sl w eI 1 r_Sf_a r.slots.free) (k_r_Sf : r.slots.free.length ≤ r_Sf_c) (h_r_l : Yz w Ef 8 DT r_l_a r.l r_l_t) (k_r_l : r.l.length ≤ r_l_c) (hG : Gl w) (hE : Er w ea0 ea1 ea2 ea3 ea4 ea5 ea6 ea7 ea8 ea9 ea10 ea11 ea12 ea13 ea14 ea15) : Ha Tryz.prog 4 [(Value.agg [(vi s.phase), (vt s.name), (vi s.handle.slot), (vi s.handle.gen), (vi s.a), (vi s.b), (vs s_opn_a s.opn.length s_opn_c)].toArray), (Value.agg [(vi f.kind), (vi f.stream), (vt f.data)].toArray), (Value.agg [(vs r_Sg_a r.slots.gens.length r_Sg_c), (vs r_Su_a r.slots.used.length r_Su_c), (vs r_Sf_a r.slots.free.length r_Sf_c), (vs r_l_a r.l.length r_l_c), (vi r.seq)].toArray), (vi now)] w (Value.bool (Jz s f r now)) := by
 have hF := Is.refl (Jz s f r now)
 refine enter func4 ntmps4 (h := ?_)
 refine Z2 ?_
 refine Ak Ag oH (k := fun r1 hr1 => ?_)
 refine Ak Ag Ll (k := fun r2 hr2 => ?_)
 refine Ak Ag mH (k := fun r3 hr3 => ?_)
 refine Z1 ?_
 refine A7 ?_
 refine Z1 ?_
 refine A0 ?_
 rintro w1_1 e1_1 w2_1 hw1_1 ⟨a1_1, c1_1, B1_1, he_1, hf_1, ho1_1, hl1_1⟩
 refine ⟨_, _, he_1, hw1_1.fresh hf_1, ?_⟩
 have hct_14047 := Me s; have hcq_14047 := Pw s
 refine vP ?_
 refine Z2 ?_
 refine AD2 ?_
 have hcf_31844 := Ti f
 refine AH4 ?_
 refine Z77 ?_
 rintro w1_2 e1_2 w2_2 hw1_2 ⟨a1_2, c1_2, t1_2, B_2, he_2, hf_2, hs1_2, hl1_2⟩
 refine ⟨_, _, he_2, hw1_2.fresh hf_2, ?_⟩
 have hcb_2 := cH r
 have hsm_2 := Px r
 refine M4 ?_
 refine rE ?_
 refine A9 ?_
 refine Z34 ?_
 rintro w1_3 e1_3 w2_3 hw1_3 ⟨a1_3, c1_3, a2_3, c2_3, B_3, he_3, hf_3, hs1_3, hs2_3, hl1_3, hl2_3⟩
 refine ⟨_, _, he_3, hw1_3.fresh hf_3, ?_⟩
 refine Kf ?_
 refine K0 ?_
 refine Ak Ag mG (k := fun r4 hr4 => ?_)
 refine Ak Ag z36 (k := fun r5 hr5 => ?_)
 refine fC ?_
 refine Iv ?_
 refine cU ?_
 refine Bi rfl (fun hq1 => ?_) (fun hq1 => ?_)
 ·refine Cb ?_
  refine Sd ?_
  refine Bo 42 rfl (fun hq2 => ?_) (fun hq2 => ?_)
  rotate_left
  ·refine Ab 3 rfl ?_
   refine Sg ?_
   refine Aa results4 z0 (fun w1 hw1 => ?_)
   exact ⟨(rq ((hF.pos hq1).f hq2)), hw1.ext_out⟩
  refine fK ?_
  refine Xc ?_
  refine Aa results4 z0 (fun w1 hw1 => ?_)
  exact ⟨(rq ((hF.pos hq1).t hq2)), hw1.ext_out⟩
 refine Py ?_
 refine Se ?_
 refine pF ?_
 refine BE3 ?_
 rintro w1_4 e1_4 w2_4 hw1_4 ⟨a1_4, c1_4, a2_4, c2_4, B1_4, B2_4, he_4, hf_4, ho1_4, ho2_4, hl1_4, hl2_4⟩
 refine ⟨_, _, he_4, (hw1_4.fresh hf_4).perm (eqp (nA rfl)), ?_⟩
 refine Kf ?_
 refine Ak Ag eG (k := fun r6 hr6 => ?_)
 refine vN ?_
 refine Dk _ (sk (sa (sa (sk (sk (sa (sx (sa (sd (sk (sk sz))))))))))) ?_
 refine Cp ?_
 refine iH ?_
 refine Cy (Ac call18) (fun w1 hw1 => nJ w1 (s := ((Aq f).data)) (n_s := z1) (hG := hG.ext hw1.ext_out) (hE := hE.ext hw1.ext_out)) (k := ?_)
 refine Kf ?_
 refine Ak Ag z68 (k := fun r7 hr7 => ?_)
 refine wH ?_
 refine Kt ?_
 refine AG8 ?_
 refine sQ ?_
 refine Cy (Ac call19) (fun w1 hw1 => bX w1 (l := ((Ce (Br r) ((Am s).name)).1.rules)) (t := ((Cs ((Aq f).data)).1)) (h_l := (ho1_4.slj Hk) w1 hw1) (n_l := z1) (hG := hG.ext hw1.ext_out) (hE := hE.ext hw1.ext_out)) (k := ?_)
 have had_98063 := Th ((Ce (Br r) ((Am s).name)).1.rules) ((Cs ((Aq f).data)).1)
 refine Kf ?_
 refine lI ?_
 refine Lq ?_
 refine Z2 ?_
 refine iJ ?_
 refine sH ?_
 refine Ao 71 rfl (fun hq3 => ?_) (fun hq3 => ?_)
 rotate_left
 ·refine Ab 3 rfl ?_
  refine Ou ?_
  refine cX ?_
  refine oJ ?_
  refine Ou ?_
  refine Uv ?_
  refine cX ?_
  refine Uv ?_
  refine Xg ?_
  refine Xd ?_
  refine mB ?_
  refine Jt ?_
  refine Mp ?_
  refine Hp ?_
  refine Bo 118 rfl (fun hq34 => ?_) (fun hq34 => ?_)
  rotate_left
  ·refine Ab 3 rfl ?_
   refine Z5 ?_
   refine mD ?_
   refine Aa results4 z0 (fun w1 hw1 => ?_)
   exact ⟨(rq (((hF.neg hq1).neg hq3).f hq34)), hw1.ext_out⟩
  refine fJ ?_
  refine Jh ?_
  refine Ao 123 rfl (fun hq35 => ?_) (fun hq35 => ?_)
  rotate_left
  ·refine Ab 7 rfl ?_
   refine Sg ?_
   refine Aa results4 z0 (fun w1 hw1 => ?_)
   exact ⟨(rq ((((hF.neg hq1).neg hq3).t hq34).neg hq35)), hw1.ext_out⟩
  refine Tu ?_
  refine mC ?_
  refine Xc ?_
  refine Aa results4 z0 (fun w1 hw1 => ?_)
  exact ⟨(rq ((((hF.neg hq1).neg hq3).t hq34).pos hq35)), hw1.ext_out⟩
 refine Ar (Al Ww) (k := ?_)
 refine fS ?_
 refine Ao 76 rfl (fun hq4 => ?_) (fun hq4 => ?_)
 rotate_left
 ·refine Ab 5 rfl ?_
  refine cX ?_
  refine oJ ?_
  refine Ou ?_
  refine Uv ?_
  refine cX ?_
  refine Uv ?_
  refine Xg ?_
  refine Xd ?_
  refine mB ?_
  refine Jt ?_
  refine Mp ?_
  refine Hp ?_
  refine Bo 118 rfl (fun hq32 => ?_) (fun hq32 => ?_)
  rotate_left
  ·refine Ab 3 rfl ?_
   refine Z5 ?_
   refine mD ?_
   refine Aa results4 z0 (fun w1 hw1 => ?_)
   exact ⟨(rq ((((hF.neg hq1).pos hq3).neg hq4).f hq32)), hw1.ext_out⟩
  refine fJ ?_
  refine Jh ?_
  refine Ao 123 rfl (fun hq33 => ?_) (fun hq33 => ?_)
  rotate_left
  ·refine Ab 7 rfl ?_
   refine Sg ?_
   refine Aa results4 z0 (fun w1 hw1 => ?_)
   exact ⟨(rq (((((hF.neg hq1).pos hq3).neg hq4).t hq32).neg hq33)), hw1.ext_out⟩
  refine Tu ?_
  refine mC ?_
  refine Xc ?_
  refine Aa results4 z0 (fun w1 hw1 => ?_)
  exact ⟨(rq (((((hF.neg hq1).pos hq3).neg hq4).t hq32).pos hq33)), hw1.ext_out⟩
 refine wK ?_
 refine Ar (Al Ke) (k := ?_)
 refine Qt ?_
 refine Kj (Ac call20) (fun w1 hw1 => Ld w1 (s := (Am s)) (stream := ((Aq f).stream)) (h_s_opn := (ho1_1.slj Ba) w1 hw1) (n_s_opn := z1)) (k := ?_)
 refine Ar Hi (k := ?_)
 refine Jh ?_
 refine Bo 83 rfl (fun hq5 => ?_) (fun hq5 => ?_)
 rotate_left
 ·refine Qe (k := ?_)
  refine oJ ?_
  refine Ou ?_
  refine Uv ?_
  refine cX ?_
  refine Uv ?_
  refine Xg ?_
  refine Xd ?_
  refine mB ?_
  refine Jt ?_
  refine Mp ?_
  refine Hp ?_
  refine Bo 118 rfl (fun hq30 => ?_) (fun hq30 => ?_)
  rotate_left
  ·refine Ab 3 rfl ?_
   refine Z5 ?_
   refine mD ?_
   refine Aa results4 z0 (fun w1 hw1 => ?_)
   exact ⟨(rq (((((hF.neg hq1).pos hq3).pos hq4).f hq5).f hq30)), hw1.ext_out⟩
  refine fJ ?_
  refine Jh ?_
  refine Ao 123 rfl (fun hq31 => ?_) (fun hq31 => ?_)
  rotate_left
  ·refine Ab 7 rfl ?_
   refine Sg ?_
   refine Aa results4 z0 (fun w1 hw1 => ?_)
   exact ⟨(rq ((((((hF.neg hq1).pos hq3).pos hq4).f hq5).t hq30).neg hq31)), hw1.ext_out⟩
  refine Tu ?_
  refine mC ?_
  refine Xc ?_
  refine Aa results4 z0 (fun w1 hw1 => ?_)
  exact ⟨(rq ((((((hF.neg hq1).pos hq3).pos hq4).f hq5).t hq30).pos hq31)), hw1.ext_out⟩
 refine wD ?_
 refine Bo 86 rfl (fun hq6 => ?_) (fun hq6 => ?_)
 rotate_left
 ·refine Ab 3 rfl ?_
  refine Ou ?_
  refine Uv ?_
  refine cX ?_
  refine Uv ?_
  refine Xg ?_
  refine Xd ?_
  refine mB ?_
  refine Jt ?_
  refine Mp ?_
  refine Hp ?_
  refine Bo 118 rfl (fun hq28 => ?_) (fun hq28 => ?_)
  rotate_left
  ·refine Ab 3 rfl ?_
   refine Z5 ?_
   refine mD ?_
   refine Aa results4 z0 (fun w1 hw1 => ?_)
   exact ⟨(rq ((((((hF.neg hq1).pos hq3).pos hq4).t hq5).f hq6).f hq28)), hw1.ext_out⟩
  refine fJ ?_
  refine Jh ?_
  refine Ao 123 rfl (fun hq29 => ?_) (fun hq29 => ?_)
  rotate_left
  ·refine Ab 7 rfl ?_
   refine Sg ?_
   refine Aa results4 z0 (fun w1 hw1 => ?_)
   exact ⟨(rq (((((((hF.neg hq1).pos hq3).pos hq4).t hq5).f hq6).t hq28).neg hq29)), hw1.ext_out⟩
  refine Tu ?_
  refine mC ?_
  refine Xc ?_
  refine Aa results4 z0 (fun w1 hw1 => ?_)
  exact ⟨(rq (((((((hF.neg hq1).pos hq3).pos hq4).t hq5).f hq6).t hq28).pos hq29)), hw1.ext_out⟩
 refine Ar (Al Qp) (k := ?_)
 refine fS ?_
 refine Ao 91 rfl (fun hq7 => ?_) (fun hq7 => ?_)
 rotate_left
 ·refine Ab 5 rfl ?_
  refine Uv ?_
  refine cX ?_
  refine Uv ?_
  refine Xg ?_
  refine Xd ?_
  refine mB ?_
  refine Jt ?_
  refine Mp ?_
  refine Hp ?_
  refine Bo 118 rfl (fun hq26 => ?_) (fun hq26 => ?_)
  rotate_left
  ·refine Ab 3 rfl ?_
   refine Z5 ?_
   refine mD ?_
   refine Aa results4 z0 (fun w1 hw1 => ?_)
   exact ⟨(rq (((((((hF.neg hq1).pos hq3).pos hq4).t hq5).t hq6).neg hq7).f hq26)), hw1.ext_out⟩
  refine fJ ?_
  refine Jh ?_
  refine Ao 123 rfl (fun hq27 => ?_) (fun hq27 => ?_)
  rotate_left
  ·refine Ab 7 rfl ?_
   refine Sg ?_
   refine Aa results4 z0 (fun w1 hw1 => ?_)
   exact ⟨(rq ((((((((hF.neg hq1).pos hq3).pos hq4).t hq5).t hq6).neg hq7).t hq26).neg hq27)), hw1.ext_out⟩
  refine Tu ?_
  refine mC ?_
  refine Xc ?_
  refine Aa results4 z0 (fun w1 hw1 => ?_)
  exact ⟨(rq ((((((((hF.neg hq1).pos hq3).pos hq4).t hq5).t hq6).neg hq7).t hq26).pos hq27)), hw1.ext_out⟩
 refine Ar (Al Lc) (k := ?_)
 refine O4 ?_
 refine rR ?_
 refine Ar z81 (k := ?_)
 refine Jh ?_
 refine Ao 98 rfl (fun hq8 => ?_) (fun hq8 => ?_)
 rotate_left
 ·refine Ab 2 rfl ?_
  refine cX ?_
  refine Uv ?_
  refine Xg ?_
  refine Xd ?_
  refine mB ?_
  refine Jt ?_
  refine Mp ?_
  refine Hp ?_
  refine Bo 118 rfl (fun hq24 => ?_) (fun hq24 => ?_)
  rotate_left
  ·refine Ab 3 rfl ?_
   refine Z5 ?_
   refine mD ?_
   refine Aa results4 z0 (fun w1 hw1 => ?_)
   exact ⟨(rq ((((((((hF.neg hq1).pos hq3).pos hq4).t hq5).t hq6).pos hq7).neg hq8).f hq24)), hw1.ext_out⟩
  refine fJ ?_
  refine Jh ?_
  refine Ao 123 rfl (fun hq25 => ?_) (fun hq25 => ?_)
  rotate_left
  ·refine Ab 7 rfl ?_
   refine Sg ?_
   refine Aa results4 z0 (fun w1 hw1 => ?_)
   exact ⟨(rq (((((((((hF.neg hq1).pos hq3).pos hq4).t hq5).t hq6).pos hq7).neg hq8).t hq24).neg hq25)), hw1.ext_out⟩
  refine Tu ?_
  refine mC ?_
  refine Xc ?_
  refine Aa results4 z0 (fun w1 hw1 => ?_)
  exact ⟨(rq (((((((((hF.neg hq1).pos hq3).pos hq4).t hq5).t hq6).pos hq7).neg hq8).t hq24).pos hq25)), hw1.ext_out⟩
 refine cP ?_
 refine Jh ?_
 refine Ao 102 rfl (fun hq9 => ?_) (fun hq9 => ?_)
 rotate_left
 ·refine Qe (k := ?_)
  refine Uv ?_
  refine Xg ?_
  refine Xd ?_
  refine mB ?_
  refine Jt ?_
  refine Mp ?_
  refine Hp ?_
  refine Bo 118 rfl (fun hq22 => ?_) (fun hq22 => ?_)
  rotate_left
  ·refine Ab 3 rfl ?_
   refine Z5 ?_
   refine mD ?_
   refine Aa results4 z0 (fun w1 hw1 => ?_)
   exact ⟨(rq (((((((((hF.neg hq1).pos hq3).pos hq4).t hq5).t hq6).pos hq7).pos hq8).neg hq9).f hq22)), hw1.ext_out⟩
  refine fJ ?_
  refine Jh ?_
  refine Ao 123 rfl (fun hq23 => ?_) (fun hq23 => ?_)
  rotate_left
  ·refine Ab 7 rfl ?_
   refine Sg ?_
   refine Aa results4 z0 (fun w1 hw1 => ?_)
   exact ⟨(rq ((((((((((hF.neg hq1).pos hq3).pos hq4).t hq5).t hq6).pos hq7).pos hq8).neg hq9).t hq22).neg hq23)), hw1.ext_out⟩
  refine Tu ?_
  refine mC ?_
  refine Xc ?_
  refine Aa results4 z0 (fun w1 hw1 => ?_)
  exact ⟨(rq ((((((((((hF.neg hq1).pos hq3).pos hq4).t hq5).t hq6).pos hq7).pos hq8).neg hq9).t hq22).pos hq23)), hw1.ext_out⟩
 refine wD ?_
 refine Bo 105 rfl (fun hq10 => ?_) (fun hq10 => ?_)
 rotate_left
 ·refine Ab 2 rfl ?_
  refine Xg ?_
  refine Xd ?_
  refine mB ?_
  refine Jt ?_
  refine Mp ?_
  refine Hp ?_
  refine Bo 118 rfl (fun hq20 => ?_) (fun hq20 => ?_)
  rotate_left
  ·refine Ab 3 rfl ?_
   refine Z5 ?_
   refine mD ?_
   refine Aa results4 z0 (fun w1 hw1 => ?_)
   exact ⟨(rq ((((((((((hF.neg hq1).pos hq3).pos hq4).t hq5).t hq6).pos hq7).pos hq8).pos hq9).f hq10).f hq20)), hw1.ext_out⟩
  refine fJ ?_
  refine Jh ?_
  refine Ao 123 rfl (fun hq21 => ?_) (fun hq21 => ?_)
  rotate_left
  ·refine Ab 7 rfl ?_
   refine Sg ?_
   refine Aa results4 z0 (fun w1 hw1 => ?_)
   exact ⟨(rq (((((((((((hF.neg hq1).pos hq3).pos hq4).t hq5).t hq6).pos hq7).pos hq8).pos hq9).f hq10).t hq20).neg hq21)), hw1.ext_out⟩
  refine Tu ?_
  refine mC ?_
  refine Xc ?_
  refine Aa results4 z0 (fun w1 hw1 => ?_)
  exact ⟨(rq (((((((((((hF.neg hq1).pos hq3).pos hq4).t hq5).t hq6).pos hq7).pos hq8).pos hq9).f hq10).t hq20).pos hq21)), hw1.ext_out⟩
 refine cP ?_
 refine Jh ?_
 refine Ao 109 rfl (fun hq11 => ?_) (fun hq11 => ?_)
 rotate_left
 ·refine Ab 4 rfl ?_
  refine Xd ?_
  refine mB ?_
  refine Jt ?_
  refine Mp ?_
  refine Hp ?_
  refine Bo 118 rfl (fun hq18 => ?_) (fun hq18 => ?_)
  rotate_left
  ·refine Ab 3 rfl ?_
   refine Z5 ?_
   refine mD ?_
   refine Aa results4 z0 (fun w1 hw1 => ?_)
   exact ⟨(rq (((((((((((hF.neg hq1).pos hq3).pos hq4).t hq5).t hq6).pos hq7).pos hq8).pos hq9).t hq10).neg hq11).f hq18)), hw1.ext_out⟩
  refine fJ ?_
  refine Jh ?_
  refine Ao 123 rfl (fun hq19 => ?_) (fun hq19 => ?_)
  rotate_left
  ·refine Ab 7 rfl ?_
   refine Sg ?_
   refine Aa results4 z0 (fun w1 hw1 => ?_)
   exact ⟨(rq ((((((((((((hF.neg hq1).pos hq3).pos hq4).t hq5).t hq6).pos hq7).pos hq8).pos hq9).t hq10).neg hq11).t hq18).neg hq19)), hw1.ext_out⟩
  refine Tu ?_
  refine mC ?_
  refine Xc ?_
  refine Aa results4 z0 (fun w1 hw1 => ?_)
  exact ⟨(rq ((((((((((((hF.neg hq1).pos hq3).pos hq4).t hq5).t hq6).pos hq7).pos hq8).pos hq9).t hq10).neg hq11).t hq18).pos hq19)), hw1.ext_out⟩
 refine Tu ?_
 refine Ar Ny (k := ?_)
 refine aK ?_
 refine Ik ?_
 refine mB ?_
 refine Jt ?_
 refine Uz ?_
 refine Bi rfl (fun hq12 => ?_) (fun hq12 => ?_)
 ·refine Cb ?_
  refine Sd ?_
  refine Bo 118 rfl (fun hq13 => ?_) (fun hq13 => ?_)
  rotate_left
  ·refine Ab 3 rfl ?_
   refine Z5 ?_
   refine mD ?_
   refine Aa results4 z0 (fun w1 hw1 => ?_)
   exact ⟨(rq ((((((((((((hF.neg hq1).pos hq3).pos hq4).t hq5).t hq6).pos hq7).pos hq8).pos hq9).t hq10).pos hq11).pos hq12).f hq13)), hw1.ext_out⟩
  refine fJ ?_
  refine Jh ?_
  refine Ao 123 rfl (fun hq14 => ?_) (fun hq14 => ?_)
  rotate_left
  ·refine Ab 7 rfl ?_
   refine Sg ?_
   refine Aa results4 z0 (fun w1 hw1 => ?_)
   exact ⟨(rq (((((((((((((hF.neg hq1).pos hq3).pos hq4).t hq5).t hq6).pos hq7).pos hq8).pos hq9).t hq10).pos hq11).pos hq12).t hq13).neg hq14)), hw1.ext_out⟩
  refine Tu ?_
  refine mC ?_
  refine Xc ?_
  refine Aa results4 z0 (fun w1 hw1 => ?_)
  exact ⟨(rq (((((((((((((hF.neg hq1).pos hq3).pos hq4).t hq5).t hq6).pos hq7).pos hq8).pos hq9).t hq10).pos hq11).pos hq12).t hq13).pos hq14)), hw1.ext_out⟩
 refine Py ?_
 refine Hp ?_
 refine Bo 133 rfl (fun hq15 => ?_) (fun hq15 => ?_)
 rotate_left
 ·refine Ab 6 rfl ?_
  refine Xg ?_
  refine Z5 ?_
  refine Ab 8 rfl ?_
  refine Hz ?_
  refine Aa results4 z0 (fun w1 hw1 => ?_)
  exact ⟨(rq ((((((((((((hF.neg hq1).pos hq3).pos hq4).t hq5).t hq6).pos hq7).pos hq8).pos hq9).t hq10).pos hq11).neg hq12).f hq15)), hw1.ext_out⟩
 refine Ar z85 (k := ?_)
 refine Ar (Al Ke) (k := ?_)
 refine Qt ?_
 refine Ar (Ch isAgg41 sizeOf41) (k := ?_)
 refine AV6 ?_
 refine Jh ?_
 refine Ao 141 rfl (fun hq16 => ?_) (fun hq16 => ?_)
 rotate_left
 ·refine Ab 4 rfl ?_
  refine Z5 ?_
  refine Ab 8 rfl ?_
  refine Hz ?_
  refine Aa results4 z0 (fun w1 hw1 => ?_)
  exact ⟨(rq (((((((((((((hF.neg hq1).pos hq3).pos hq4).t hq5).t hq6).pos hq7).pos hq8).pos hq9).t hq10).pos hq11).neg hq12).t hq15).neg hq16)), hw1.ext_out⟩
 refine wK ?_
 refine Ar (Al Ke) (k := ?_)
 refine Qt ?_
 refine Kj (Ac call20) (fun w1 hw1 => Ld w1 (s := ((Aj (Am s) (Aq f) (Br r) now).1)) (stream := ((Aq f).stream)) (h_s_opn := (Hd.slj hs1_3) w1 hw1) (n_s_opn := z1)) (k := ?_)
 refine Jh ?_
 refine Bo 147 rfl (fun hq17 => ?_) (fun hq17 => ?_)
 rotate_left
 ·refine Ab 8 rfl ?_
  refine Hz ?_
  refine Aa results4 z0 (fun w1 hw1 => ?_)
  exact ⟨(rq ((((((((((((((hF.neg hq1).pos hq3).pos hq4).t hq5).t hq6).pos hq7).pos hq8).pos hq9).t hq10).pos hq11).neg hq12).t hq15).pos hq16).f hq17)), hw1.ext_out⟩
 refine Tu ?_
 refine Tu ?_
 refine Ar jD (k := ?_)
 refine dF ?_
 refine Ot ?_
 refine Aa results4 z0 (fun w1 hw1 => ?_)
 exact ⟨(rq ((((((((((((((hF.neg hq1).pos hq3).pos hq4).t hq5).t hq6).pos hq7).pos hq8).pos hq9).t hq10).pos hq11).neg hq12).t hq15).pos hq16).t hq17)), hw1.ext_out⟩

end Go.Proofs.YtdnjanhdnibkfaaGreatDoor.Jd

namespace Go.Proofs.YtdnjanhdnibkfaaGreatDoor.Jd
open Go.Proofs.Tryz
set_option maxRecDepth 100000
set_option linter.unusedVariables false
set_option linter.unusedSimpArgs false
theorem Lf {t : Session} {g : Frame} {q : Bk} {x : Session × (List Frame) × Act × Int} (hm : ¬ yD t g q) (hk : x.2.2.1.kind ≠ 1) (hl : x.1.opn.length ≤ t.opn.length) (h0 : x.2.2.2 = 0) (B : Prop) [Decidable B] (C : Bool) : (if (t.phase) = 2 then (if (g.kind) = 3 then (if (!(Dp t (g.stream))) = true then (if ((Ce q (t.name)).2) = true then (if ((Ce q (t.name)).1.state) = 1 then (if ((Ce q (t.name)).1.handle.slot) = (t.handle.slot) ∧ ((Ce q (t.name)).1.handle.gen) = (t.handle.gen) then (if ((Cs (g.data)).2) = 0 then (if ((Ek ((Ce q (t.name)).1.rules) ((Cs (g.data)).1)).1) = true then (if ((Ek ((Ce q (t.name)).1.rules) ((Cs (g.data)).1)).2.2) = 0 then (if ¬ ((((t.opn.length) : Nat) : Int) < 8) then (if (x.2.2.1.kind) ≠ 1 then decide ((((x.1.opn.length) : Nat) : Int) ≤ (((t.opn.length) : Nat) : Int)) else false) else C) else (if (x.2.2.1.kind) ≠ 1 then decide ((((x.1.opn.length) : Nat) : Int) ≤ (((t.opn.length) : Nat) : Int)) else false)) else (if (x.2.2.1.kind) ≠ 1 then decide ((((x.1.opn.length) : Nat) : Int) ≤ (((t.opn.length) : Nat) : Int)) else false)) else (if (x.2.2.1.kind) ≠ 1 then decide ((((x.1.opn.length) : Nat) : Int) ≤ (((t.opn.length) : Nat) : Int)) else false)) else (if (x.2.2.1.kind) ≠ 1 then decide ((((x.1.opn.length) : Nat) : Int) ≤ (((t.opn.length) : Nat) : Int)) else false)) else (if (x.2.2.1.kind) ≠ 1 then decide ((((x.1.opn.length) : Nat) : Int) ≤ (((t.opn.length) : Nat) : Int)) else false)) else (if (x.2.2.1.kind) ≠ 1 then decide ((((x.1.opn.length) : Nat) : Int) ≤ (((t.opn.length) : Nat) : Int)) else false)) else (if (x.2.2.1.kind) ≠ 1 then decide ((((x.1.opn.length) : Nat) : Int) ≤ (((t.opn.length) : Nat) : Int)) else false)) else (if (x.2.2.1.kind) ≠ 1 then decide ((((x.1.opn.length) : Nat) : Int) ≤ (((t.opn.length) : Nat) : Int)) else false)) else (if (x.2.2.1.kind) ≠ 1 then decide ((((x.1.opn.length) : Nat) : Int) ≤ (((t.opn.length) : Nat) : Int)) else false)) = true := by
  have e : (if (x.2.2.1.kind) ≠ 1 then decide ((((x.1.opn.length) : Nat) : Int) ≤ (((t.opn.length) : Nat) : Int)) else false) = true := by
    rw [if_pos hk]; exact decide_eq_true z3
  simp only [e]
  split
  · rename_i p2
    split
    · rename_i k3
      split
      · rename_i hs
        split
        · rename_i f2
          split
          · rename_i s1
            split
            · rename_i hh
              split
              · rename_i tp
                split
                · rename_i ad
                  split
                  · rename_i ae
                    split
                    · rfl
                    · rename_i rm
                      exact absurd ⟨p2, k3, by simpa using hs, f2, s1, hh, tp, ad, ae, by have := Classical.not_not.1 rm; omega⟩ hm
                  · rfl
                · rfl
              · rfl
            · rfl
          · rfl
        · rfl
      · rfl
    · rfl
  · rfl
theorem Zm (s : Session) (f : Frame) (r : Bk) (now : Int) : Jz s f r now = true := by
  unfold Jz
  simp only [Jo, if_true]
  have h := Wg (Am s) (Aq f) (Br r) now
  generalize Aj (Am s) (Aq f) (Br r) now = x at h ⊢
  generalize Am s = t at h ⊢
  generalize Aq f = g at h ⊢
  generalize Br r = q at h ⊢
  have np : t.phase ≠ 2 → ¬ yD t g q := fun h1 h2 => h1 h2.phase
  have nk : g.kind ≠ 3 → ¬ yD t g q := fun h1 h2 => h1 h2.kind
  cases h with
  | badS h => simp [Wc]
  | badF h hf2 => simp [Wc]
  | dead h hf hp => rw [if_neg (fun h => h rfl)]; exact Lf (np z3) (by simp [Wc]) (Nat.le_refl _) rfl True _
  | ping h hf hp hk => rw [if_neg (fun h => h rfl)]; exact Lf (nk z3) (by simp [Wc]) (Nat.le_refl _) rfl True _
  | hello h hf hp hk => rw [if_neg (fun h => h rfl)]; exact Lf (nk z3) (by simp [Wc]) (Nat.le_refl _) rfl True _
  | dies h hf hp hk hn hm => rw [if_neg (fun h => h rfl)]; exact Lf hm (by simp [uW]) (Nat.zero_le _) rfl True _
  | ready h hf hc => rw [if_neg (fun h => h rfl)]; exact Lf (nk (by rw [hc.kind]; decide)) Ij (Nat.le_refl _) rfl True _
  | opened h hf hc =>
    have e1 : Dp (eZ t g.stream) g.stream = true := (Rz _ _).2 (cG.2 (.inl rfl))
    have e2 : (eZ t g.stream).opn.length = t.opn.length + 1 := Ap (cF (List.pairwise_cons.1 h.opn.up).2 g.stream).2.2
    have hr := hc.room
    simp [hc.phase, hc.kind, hc.has, hc.found, hc.state, hc.handle, hc.target, hc.allows, hc.noerr, e1, e2]
    omega
  | refused h hf hp hk hm => rw [if_neg (fun h => h rfl)]; exact Lf hm (by simp [Wc]) (Nat.le_refl _) rfl True _
  | asks h hf hp hk hh a ha hs => rw [if_neg (fun h => h rfl)]; exact Lf (nk z3) (by simp only; omega) (Nat.le_refl _) rfl True _
  | reset h hf hp hk hh => rw [if_neg (fun h => h rfl)]; exact Lf (nk z3) Ij (List.length_filter_le _ _) rfl True _
  | gone h hf hp hk hh => rw [if_neg (fun h => h rfl)]; exact Lf (nk z3) (by simp [Wc]) (Nat.le_refl _) rfl True _
end Go.Proofs.YtdnjanhdnibkfaaGreatDoor.Jd

