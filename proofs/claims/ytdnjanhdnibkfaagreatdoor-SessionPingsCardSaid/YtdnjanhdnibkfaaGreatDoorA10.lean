/- Part of the proofs of this seat: walks and plain facts. No condition. -/
import Derived.Test.YtdnjanhdnibkfaaGreatDoorA0
import Derived.Test.YtdnjanhdnibkfaaGreatDoorProg
import Derived.Test.YtdnjanhdnibkfaaGreatDoorA5
import Derived.Test.YtdnjanhdnibkfaaGreatDoorA1
import Derived.Test.YtdnjanhdnibkfaaGreatDoorA2
import Derived.Test.YtdnjanhdnibkfaaGreatDoorA4
import Derived.Test.YtdnjanhdnibkfaaGreatDoorA6
import Derived.Test.YtdnjanhdnibkfaaGreatDoorA7
namespace Go.Proofs.YtdnjanhdnibkfaaGreatDoor.Jd
open Go.Proofs.Tryz
set_option linter.unusedVariables false
set_option linter.unusedSimpArgs false
section
variable {p q : Prop}
theorem BK8 (k : q) (h : Aw q → p := by intro z; refine Bu (Cz (n := (Aj (Am s) (Frame.mk 8 0 (data.take ((if 8 < ((data.length : Nat) : Int) then 8 else ((data.length : Nat) : Int)).toNat))) (Br r) now).2.1.length) runUnderlying39 sizeOf28 0 (Hd.slj hs2_3) (gD z4) Kc) (k := ?_); refine Bu (Gt isAgg28 sizeOf28 0 (Hd.slj hs2_3) (gD z4)) (k := ?_); exact z.1) : p := h ⟨k⟩
end
open Go.Proofs
open Go.RowKit (Below)
set_option maxRecDepth 100000
set_option maxHeartbeats 8000000
set_option linter.unusedVariables false
set_option linter.unusedSimpArgs false
def Ka (s : Session) (r : Bk) (now : Int) (data : An) : Bool := (if ((Aj (Am s) (Frame.mk 8 0 (data.take ((if 8 < ((data.length : Nat) : Int) then 8 else ((data.length : Nat) : Int)).toNat))) (Br r) now).2.2.2) ≠ 0 then (if Ds = true then (if ((Aj (Am s) (Frame.mk 8 0 (data.take ((if 8 < ((data.length : Nat) : Int) then 8 else ((data.length : Nat) : Int)).toNat))) (Br r) now).2.2.2) = 180 then (!(Fv (Am s))) else false) else false) else (if Ds = true then (if (Nv (Am s) ((Aj (Am s) (Frame.mk 8 0 (data.take ((if 8 < ((data.length : Nat) : Int) then 8 else ((data.length : Nat) : Int)).toNat))) (Br r) now).1)) = true then (if ((Aj (Am s) (Frame.mk 8 0 (data.take ((if 8 < ((data.length : Nat) : Int) then 8 else ((data.length : Nat) : Int)).toNat))) (Br r) now).2.2.1.kind) = 0 ∧ ((Aj (Am s) (Frame.mk 8 0 (data.take ((if 8 < ((data.length : Nat) : Int) then 8 else ((data.length : Nat) : Int)).toNat))) (Br r) now).2.2.1.stream) = 0 ∧ ((Aj (Am s) (Frame.mk 8 0 (data.take ((if 8 < ((data.length : Nat) : Int) then 8 else ((data.length : Nat) : Int)).toNat))) (Br r) now).2.2.1.data) = ([] : An) ∧ ((Aj (Am s) (Frame.mk 8 0 (data.take ((if 8 < ((data.length : Nat) : Int) then 8 else ((data.length : Nat) : Int)).toNat))) (Br r) now).2.2.1.n) = 0 ∧ ((Aj (Am s) (Frame.mk 8 0 (data.take ((if 8 < ((data.length : Nat) : Int) then 8 else ((data.length : Nat) : Int)).toNat))) (Br r) now).2.2.1.target.addr) = 0 ∧ ((Aj (Am s) (Frame.mk 8 0 (data.take ((if 8 < ((data.length : Nat) : Int) then 8 else ((data.length : Nat) : Int)).toNat))) (Br r) now).2.2.1.target.port) = 0 then (if ((Am s).phase) = 3 then (if ((((Aj (Am s) (Frame.mk 8 0 (data.take ((if 8 < ((data.length : Nat) : Int) then 8 else ((data.length : Nat) : Int)).toNat))) (Br r) now).2.1.length) : Nat) : Int) = 0 then true else (if ((Am s).phase) ≠ 3 then (if ((((Aj (Am s) (Frame.mk 8 0 (data.take ((if 8 < ((data.length : Nat) : Int) then 8 else ((data.length : Nat) : Int)).toNat))) (Br r) now).2.1.length) : Nat) : Int) = 1 then decide (((((Aj (Am s) (Frame.mk 8 0 (data.take ((if 8 < ((data.length : Nat) : Int) then 8 else ((data.length : Nat) : Int)).toNat))) (Br r) now).2.1).getD 0 default).kind) = 8 ∧ ((((Aj (Am s) (Frame.mk 8 0 (data.take ((if 8 < ((data.length : Nat) : Int) then 8 else ((data.length : Nat) : Int)).toNat))) (Br r) now).2.1).getD 0 default).stream) = 0 ∧ ((((Aj (Am s) (Frame.mk 8 0 (data.take ((if 8 < ((data.length : Nat) : Int) then 8 else ((data.length : Nat) : Int)).toNat))) (Br r) now).2.1).getD 0 default).data) = (data.take ((if 8 < ((data.length : Nat) : Int) then 8 else ((data.length : Nat) : Int)).toNat))) else false) else false)) else (if ((Am s).phase) ≠ 3 then (if ((((Aj (Am s) (Frame.mk 8 0 (data.take ((if 8 < ((data.length : Nat) : Int) then 8 else ((data.length : Nat) : Int)).toNat))) (Br r) now).2.1.length) : Nat) : Int) = 1 then decide (((((Aj (Am s) (Frame.mk 8 0 (data.take ((if 8 < ((data.length : Nat) : Int) then 8 else ((data.length : Nat) : Int)).toNat))) (Br r) now).2.1).getD 0 default).kind) = 8 ∧ ((((Aj (Am s) (Frame.mk 8 0 (data.take ((if 8 < ((data.length : Nat) : Int) then 8 else ((data.length : Nat) : Int)).toNat))) (Br r) now).2.1).getD 0 default).stream) = 0 ∧ ((((Aj (Am s) (Frame.mk 8 0 (data.take ((if 8 < ((data.length : Nat) : Int) then 8 else ((data.length : Nat) : Int)).toNat))) (Br r) now).2.1).getD 0 default).data) = (data.take ((if 8 < ((data.length : Nat) : Int) then 8 else ((data.length : Nat) : Int)).toNat))) else false) else false)) else false) else false) else false))
end Go.Proofs.YtdnjanhdnibkfaaGreatDoor.Jd

namespace Go.Proofs.YtdnjanhdnibkfaaGreatDoor.Jd
open Go.Proofs.Tryz
open Go.Proofs
open Go.RowKit (Below)
set_option maxRecDepth 100000
set_option maxHeartbeats 8000000
set_option linter.unusedVariables false
set_option linter.unusedSimpArgs false
theorem eD (w : World) {s_opn_a : Option Addr} {s_opn_c : Nat} {r_Sg_a : Option Addr} {r_Sg_c : Nat} {r_Su_a : Option Addr} {r_Su_c : Nat} {r_Sf_a : Option Addr} {r_Sf_c : Nat} {r_l_a : Option Addr} {r_l_c : Nat} {r_l_t : List TA} {ea0 : Addr} {ea1 : Addr} {ea2 : Addr} {ea3 : Addr} {ea4 : Addr} {ea5 : Addr} {ea6 : Addr} {ea7 : Addr} {ea8 : Addr} {ea9 : Addr} {ea10 : Addr} {ea11 : Addr} {ea12 : Addr} {ea13 : Addr} {ea14 : Addr} {ea15 : Addr} {s : Session} {r : Bk} {now : Int} {data : An} (h_s_opn : Sl w eI 1 s_opn_a s.opn) (k_s_opn : s.opn.length ≤ s_opn_c) (h_r_Sg : Sl w eI 1 r_Sg_a r.slots.gens) (k_r_Sg : r.slots.gens.length ≤ r_Sg_c) (h_r_Su : Sl w eB 1 r_Su_a r.slots.used) (k_r_Su : r.slots.used.length ≤ r_Su_c) (h_r_Sf : Sl w eI 1 r_Sf_a r.slots.free) (k_r_Sf : r.slots.free.length ≤ r_Sf_c) (h_r_l : Yz w Ef 8 DT r_l_a r.l r_l_t) (k_r_l : r.l.length ≤ r_l_c) (hG : Gl w) (hE : Er w ea0 ea1 ea2 ea3 ea4 ea5 ea6 ea7 ea8 ea9 ea10 ea11 ea12 ea13 ea14 ea15) : Ha Tryz.prog 9 [(Value.agg [(vi s.phase), (vt s.name), (vi s.handle.slot), (vi s.handle.gen), (vi s.a), (vi s.b), (vs s_opn_a s.opn.length s_opn_c)].toArray), (Value.agg [(vs r_Sg_a r.slots.gens.length r_Sg_c), (vs r_Su_a r.slots.used.length r_Su_c), (vs r_Sf_a r.slots.free.length r_Sf_c), (vs r_l_a r.l.length r_l_c), (vi r.seq)].toArray), (vi now), (vt data)] w (Value.bool (Ka s r now data)) := by
 have hF := Is.refl (Ka s r now data)
 refine enter func9 ntmps9 (h := ?_)
 refine Z2 ?_
 refine Ak Ag oH (k := fun r1 hr1 => ?_)
 refine Ak Ag mH (k := fun r2 hr2 => ?_)
 refine Z1 ?_
 refine A7 ?_
 refine Z1 ?_
 refine A0 ?_
 rintro w1_1 e1_1 w2_1 hw1_1 ⟨a1_1, c1_1, B1_1, he_1, hf_1, ho1_1, hl1_1⟩
 refine ⟨_, _, he_1, hw1_1.fresh hf_1, ?_⟩
 have hct_14047 := Me s; have hcq_14047 := Pw s
 refine vP ?_
 refine Z2 ?_
 refine Z77 ?_
 rintro w1_2 e1_2 w2_2 hw1_2 ⟨a1_2, c1_2, t1_2, B_2, he_2, hf_2, hs1_2, hl1_2⟩
 refine ⟨_, _, he_2, hw1_2.fresh hf_2, ?_⟩
 have hcb_2 := cH r
 have hsm_2 := Px r
 refine M4 ?_
 refine Hp ?_
 refine iW ?_
 refine Af Vk (k := ?_)
 refine Af (Rq (s := data) ((if 8 < ((data.length : Nat) : Int) then 8 else ((data.length : Nat) : Int)).toNat) runUnderlying9 z3) (k := ?_)
 have hsb1 : (data.take ((if 8 < ((data.length : Nat) : Int) then 8 else ((data.length : Nat) : Int)).toNat)).length = ((if 8 < ((data.length : Nat) : Int) then 8 else ((data.length : Nat) : Int)).toNat) := by first | omega | (simp only [List.length_take, List.length_drop, List.length_cons, List.length_nil] <;> omega)
 refine Af z77 (k := ?_)
 refine Ak Ag (Cj (l := [_, _, _]) zeroValue28) (k := fun r3 hr3 => ?_)
 refine Ep (Bn (l' := [_, _, _]) sizeOf28) (k := ?_)
 refine Z0 ?_
 refine rE ?_
 refine A9 ?_
 refine Ck ?_
 refine Kq (Ac call14) (fun w1 hw1 => Pc w1 (s := (Am s)) (f := (Frame.mk 8 0 (data.take ((if 8 < ((data.length : Nat) : Int) then 8 else ((data.length : Nat) : Int)).toNat)))) (r := (Br r)) (now := now) (h_s_opn := (ho1_1.slj Ba) w1 hw1) (n_s_opn := z1) (h_r_Sg := (Cl.take (Cl.of_base h_r_Sg) _) w1 hw1) (n_r_Sg := z1) (h_r_Su := (Cl.take (Cl.of_base h_r_Su) _) w1 hw1) (n_r_Su := z1) (h_r_Sf := (Cl.take (Cl.of_base h_r_Sf) _) w1 hw1) (n_r_Sf := z1) (h_r_l := (Kr.j hs1_2.1 sh).2 w1 hw1) (n_r_l := z1) (k_r_l := hs1_2.2) (hG := hG.ext hw1.ext_out) (hE := hE.ext hw1.ext_out) (hsm := z58)) (k := ?_)
 rintro w1_3 e1_3 w2_3 hw1_3 ⟨a1_3, c1_3, a2_3, c2_3, B_3, he_3, hf_3, hs1_3, hs2_3, hl1_3, hl2_3⟩
 refine ⟨_, _, he_3, hw1_3.fresh hf_3, ?_⟩
 refine Kf ?_
 refine K0 ?_
 refine Ak Ag mG (k := fun r4 hr4 => ?_)
 refine Ak Ag z36 (k := fun r5 hr5 => ?_)
 refine fC ?_
 refine Ik ?_
 refine Eu ?_
 refine Dk _ (sk (sk (sa (sk (sx (sa (sd (sk sz)))))))) ?_
 refine Jt ?_
 refine cU ?_
 refine Bi rfl (fun hq1 => ?_) (fun hq1 => ?_)
 ·refine Cb ?_
  refine Sd ?_
  refine Bo 39 rfl (fun hq2 => ?_) (fun hq2 => ?_)
  rotate_left
  ·refine Ab 2 rfl ?_
   refine oJ ?_
   refine Sg ?_
   refine Aa results9 z0 (fun w1 hw1 => ?_)
   exact ⟨(rq ((hF.pos hq1).f hq2)), hw1.ext_out⟩
  refine cP ?_
  refine Jh ?_
  refine Ao 43 rfl (fun hq3 => ?_) (fun hq3 => ?_)
  rotate_left
  ·refine Ab 3 rfl ?_
   refine Sg ?_
   refine Aa results9 z0 (fun w1 hw1 => ?_)
   exact ⟨(rq (((hF.pos hq1).t hq2).neg hq3)), hw1.ext_out⟩
  refine BF7 ?_
  refine Ar Hi (k := ?_)
  refine Xc ?_
  refine Aa results9 z0 (fun w1 hw1 => ?_)
  exact ⟨(rq (((hF.pos hq1).t hq2).pos hq3)), hw1.ext_out⟩
 refine Yq ?_
 refine Eh mixed 39 [(true, 0), (true, 1), (true, 2), (true, 3), (false, 4), (true, 5), (true, 6), (true, 7), (true, 8), (true, 9), (true, 10), (true, 11), (true, 12), (true, 13), (true, 14), (true, 15), (true, 16), (true, 17), (true, 18), (true, 19), (true, 20), (true, 21), (true, 22), (true, 23), (true, 24), (true, 25), (true, 26), (true, 27), (true, 28), (true, 29), (true, 30), (true, 31), (true, 32), (true, 33), (true, 34), (true, 35), (true, 36), (true, 37), (true, 38)] z2 ?_
 refine Li ?_
 refine Fp 49 rfl (fun hq4 => ?_) (fun hq4 => ?_)
 rotate_left
 ·refine Ay 3 rfl ?_
  refine Ni ?_
  refine oI ?_
  refine Ay 25 rfl ?_
  refine Ks ?_
  refine Aa results9 z0 (fun w1 hw1 => ?_)
  exact ⟨(rq ((hF.neg hq1).f hq4)), hw1.ext_out⟩
 refine vJ ?_
 refine Ms (Ac call28) (fun w1 hw1 => Xa w1 (a := (Am s)) (b := ((Aj (Am s) (Frame.mk 8 0 (data.take ((if 8 < ((data.length : Nat) : Int) then 8 else ((data.length : Nat) : Int)).toNat))) (Br r) now).1)) (h_a_opn := (ho1_1.slj Ba) w1 hw1) (n_a_opn := z1) (h_b_opn := (Hd.slj hs1_3) w1 hw1) (n_b_opn := z1)) (k := ?_)
 refine eJ ?_
 refine Fp 54 rfl (fun hq5 => ?_) (fun hq5 => ?_)
 rotate_left
 ·refine Ay 3 rfl ?_
  refine oI ?_
  refine Ay 25 rfl ?_
  refine Ks ?_
  refine Aa results9 z0 (fun w1 hw1 => ?_)
  exact ⟨(rq (((hF.neg hq1).t hq4).f hq5)), hw1.ext_out⟩
 refine Bu z85 (k := ?_)
 refine Bu (Cx (cs := [_, _, _, _, _, _]) zeroValue43 Y1) (k := ?_)
 refine Bu (aV (AS5 _ _ _ _ _ _ _ _ _ _ _ _ _ _)) (k := ?_)
 refine eJ ?_
 refine Dg 59 rfl (fun hq6 => ?_) (fun hq6 => ?_)
 rotate_left
 ·refine Ay 25 rfl ?_
  refine Ks ?_
  refine Aa results9 z0 (fun w1 hw1 => ?_)
  exact ⟨(rq ((((hF.neg hq1).t hq4).t hq5).neg hq6)), hw1.ext_out⟩
 refine Bu z75 (k := ?_)
 refine lC ?_
 refine Ht ?_
 refine Dg 63 rfl (fun hq7 => ?_) (fun hq7 => ?_)
 rotate_left
 ·refine Ay 3 rfl ?_
  refine vV ?_
  refine Bu z75 (k := ?_)
  refine L5 ?_
  refine Dg 72 rfl (fun hq11 => ?_) (fun hq11 => ?_)
  rotate_left
  ·refine Ay 3 rfl ?_
   refine vV ?_
   refine Ay 5 rfl ?_
   refine Ub ?_
   refine vO ?_
   refine Aa results9 z0 (fun w1 hw1 => ?_)
   exact ⟨(rq ((((((hF.neg hq1).t hq4).t hq5).pos hq6).neg hq7).neg hq11)), hw1.ext_out⟩
  refine AG7 ?_
  refine fT ?_
  refine vW ?_
  refine Dg 77 rfl (fun hq12 => ?_) (fun hq12 => ?_)
  rotate_left
  ·refine Ay 5 rfl ?_
   refine Ub ?_
   refine vO ?_
   refine Aa results9 z0 (fun w1 hw1 => ?_)
   exact ⟨(rq (((((((hF.neg hq1).t hq4).t hq5).pos hq6).neg hq7).pos hq11).neg hq12)), hw1.ext_out⟩
  refine Ht ?_
  refine BK8 ?_
  refine Bu z60 (k := ?_)
  refine Bu (aV (X6 _ _ _ _ _ _ _ _)) (k := ?_)
  refine iX ?_
  refine vO ?_
  refine Aa results9 z0 (fun w1 hw1 => ?_)
  exact ⟨(rq (((((((hF.neg hq1).t hq4).t hq5).pos hq6).neg hq7).pos hq11).pos hq12)), hw1.ext_out⟩
 refine AG7 ?_
 refine fT ?_
 refine vW ?_
 refine Dg 68 rfl (fun hq8 => ?_) (fun hq8 => ?_)
 ·refine Ay 15 rfl ?_
  refine lM ?_
  refine Aa results9 z0 (fun w1 hw1 => ?_)
  exact ⟨(rq ((((((hF.neg hq1).t hq4).t hq5).pos hq6).pos hq7).pos hq8)), hw1.ext_out⟩
 refine Bu z75 (k := ?_)
 refine L5 ?_
 refine Dg 72 rfl (fun hq9 => ?_) (fun hq9 => ?_)
 rotate_left
 ·refine Ay 3 rfl ?_
  refine vV ?_
  refine Ay 5 rfl ?_
  refine Ub ?_
  refine vO ?_
  refine Aa results9 z0 (fun w1 hw1 => ?_)
  exact ⟨(rq (((((((hF.neg hq1).t hq4).t hq5).pos hq6).pos hq7).neg hq8).neg hq9)), hw1.ext_out⟩
 refine AG7 ?_
 refine fT ?_
 refine vW ?_
 refine Dg 77 rfl (fun hq10 => ?_) (fun hq10 => ?_)
 rotate_left
 ·refine Ay 5 rfl ?_
  refine Ub ?_
  refine vO ?_
  refine Aa results9 z0 (fun w1 hw1 => ?_)
  exact ⟨(rq ((((((((hF.neg hq1).t hq4).t hq5).pos hq6).pos hq7).neg hq8).pos hq9).neg hq10)), hw1.ext_out⟩
 refine Ht ?_
 refine BK8 ?_
 refine Bu z60 (k := ?_)
 refine Bu (aV (X6 _ _ _ _ _ _ _ _)) (k := ?_)
 refine iX ?_
 refine vO ?_
 refine Aa results9 z0 (fun w1 hw1 => ?_)
 exact ⟨(rq ((((((((hF.neg hq1).t hq4).t hq5).pos hq6).pos hq7).neg hq8).pos hq9).pos hq10)), hw1.ext_out⟩

end Go.Proofs.YtdnjanhdnibkfaaGreatDoor.Jd

namespace Go.Proofs.YtdnjanhdnibkfaaGreatDoor.Jd
open Go.Proofs.Tryz
set_option maxRecDepth 100000
set_option linter.unusedVariables false
set_option linter.unusedSimpArgs false
theorem yF (d : An) (h : d.length ≤ 8) : Dy (Frame.mk 8 0 d) = true := by
  unfold Dy
  simp [Uc]
  omega
theorem Zp (s : Session) (r : Bk) (now : Int) (data : An) : Ka s r now data = true := by
  unfold Ka
  simp only [Jo, if_true]
  have hd : (data.take (if 8 < ((data.length : Nat) : Int) then 8 else ((data.length : Nat) : Int)).toNat).length ≤ 8 := by
    rw [List.length_take]
    split <;> omega
  generalize data.take (if 8 < ((data.length : Nat) : Int) then 8 else ((data.length : Nat) : Int)).toNat = d at hd ⊢
  have h := Wg (Am s) (Frame.mk 8 0 d) (Br r) now
  have hf := yF d hd
  generalize Aj (Am s) (Frame.mk 8 0 d) (Br r) now = x at h ⊢
  generalize Am s = t at h ⊢
  have e := (Zi t t).2 rfl
  cases h with
  | badS h => simp [h]
  | badF h hf2 => rw [hf] at hf2; cases hf2
  | dead h hf hp => simp [e, hp, Wc]
  | ping h hf hp hk => simp [e, hp, Wc]
  | hello h hf hp hk => cases hk
  | dies h hf hp hk => exact absurd rfl hk
  | ready h hf hc => exact absurd hc.kind (show ¬ (8 : Int) = 2 by decide)
  | opened h hf hc => exact absurd hc.kind (show ¬ (8 : Int) = 3 by decide)
  | refused h hf hp hk hm => exact absurd hk (show ¬ ((3 : Int) ≤ 8 ∧ (8 : Int) ≤ 6) by decide)
  | asks h hf hp hk => exact absurd hk (show ¬ ((4 : Int) ≤ 8 ∧ (8 : Int) ≤ 6) by decide)
  | reset h hf hp hk => cases hk
  | gone h hf hp hk => cases hk
end Go.Proofs.YtdnjanhdnibkfaaGreatDoor.Jd

