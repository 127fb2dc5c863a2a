/- Part of the proofs of this seat: walks and plain facts. No condition. -/
import Derived.Test.YtdnjanhdnibkfaaGreatDoorA0
import Derived.Test.YtdnjanhdnibkfaaGreatDoorProg
import Derived.Test.YtdnjanhdnibkfaaGreatDoorA5
import Derived.Test.YtdnjanhdnibkfaaGreatDoorA1
import Derived.Test.YtdnjanhdnibkfaaGreatDoorA2
import Derived.Test.YtdnjanhdnibkfaaGreatDoorA4
import Derived.Test.YtdnjanhdnibkfaaGreatDoorA6
import Derived.Test.YtdnjanhdnibkfaaGreatDoorA7
namespace Go.Proofs.YtdnjanhdnibkfaaGreatDoor.Jd
open Go.Proofs.Tryz
set_option linter.unusedVariables false
set_option linter.unusedSimpArgs false
section
variable {p q : Prop}
theorem BK5 (k : q) (h : Aw q → p := by intro z; refine wK ?_; refine Kj (Ac call28) (fun w1 hw1 => Xa w1 (a := (Am s)) (b := ((Aj (Am s) (Aq f) (Br r) now).1)) (h_a_opn := (ho1_1.slj Ba) w1 hw1) (n_a_opn := z1) (h_b_opn := (Hd.slj hs1_3) w1 hw1) (n_b_opn := z1)) (k := ?_); exact z.1) : p := h ⟨k⟩
theorem BK6 (k : q) (h : Aw q → p := by intro z; refine wK ?_; refine Kj (Ac call22) (fun w1 hw1 => Pv w1 (s := ((Aj (Am s) (Aq f) (Br r) now).1)) (h_s_opn := (Hd.slj hs1_3) w1 hw1) (n_s_opn := z1)) (k := ?_); exact z.1) : p := h ⟨k⟩
theorem gK (k : q) (h : Aw q → p := by intro z; refine Ab 12 rfl ?_; refine Hz ?_; exact z.1) : p := h ⟨k⟩
theorem BK7 (k : q) (h : Aw q → p := by intro z; refine Bu (Cz (n := (Aj (Am s) (Aq f) (Br r) now).2.1.length) runUnderlying39 sizeOf28 0 (Hd.slj hs2_3) (gD z4) Kc) (k := ?_); exact z.1) : p := h ⟨k⟩
end
open Go.Proofs
set_option maxRecDepth 100000
set_option linter.unusedVariables false
set_option linter.unusedSimpArgs false
theorem kR {l : List Int} {x : Int} (h : x ∈ l) : ∃ k, k < l.length ∧ l.getD k default = x := by
  obtain ⟨k, hk, e⟩ := List.getElem_of_mem h
  exact ⟨k, hk, by simp [List.getD, hk, e]⟩
theorem Hy.less {l : List Int} (h : Hy l) (n : Int) : Hy (l.filter (· ≠ n)) := by
  have hs : (l.filter (· ≠ n)).Sublist l := List.filter_sublist
  exact ⟨(h.up).sublist (hs.cons_cons 0), fun x hx => h.most x (hs.subset hx), Nat.le_trans hs.length_le h.len⟩
theorem Hy.more {l : List Int} (h : Hy l) {n : Int} (hn : n ∉ l) (h0 : 0 < n ∧ n ≤ 65535) (hl : l.length < 8) : Hy (Mz l (Gb l n).1.toNat n) := by
  have hp := (List.pairwise_cons.1 h.up)
  obtain ⟨g1, g2, g3⟩ := cF hp.2 n
  generalize (Gb l n).1.toNat = i at g1 g2 g3
  have ht : ∀ x ∈ l.take i, x < n := fun x hx => by
    obtain ⟨k, hk, e⟩ := kR hx
    rw [List.length_take] at hk
    have := g1 k z3
    have e2 : (l.take i).getD k default = l.getD k default := by
      rw [List.getD_eq_getElem?_getD, List.getD_eq_getElem?_getD, List.getElem?_take_of_lt z3]
    rw [← e, e2]; exact this
  have hd : ∀ x ∈ l.drop i, n < x := fun x hx => by
    obtain ⟨k, hk, e⟩ := kR hx
    rw [List.length_drop] at hk
    have e2 : (l.drop i).getD k default = l.getD (i + k) default := by
      rw [List.getD_eq_getElem?_getD, List.getD_eq_getElem?_getD, List.getElem?_drop]
    have g := g2 (i + k) z3 z3
    have hm : x ∈ l := List.mem_of_mem_drop hx
    have hne : n ≠ x := fun e3 => hn (e3 ▸ hm)
    rw [e2] at e
    omega
  refine ⟨?_, fun x hx => ?_, by rw [Ap g3]; omega⟩
  · refine List.pairwise_cons.2 ⟨fun x hx => ?_, ?_⟩
    · rcases cG.1 hx with rfl | hx
      · exact h0.1
      · exact hp.1 x hx
    · unfold Mz
      rw [List.pairwise_append]
      refine ⟨hp.2.sublist (List.take_sublist _ _), List.pairwise_cons.2 ⟨hd, hp.2.sublist (List.drop_sublist _ _)⟩, fun a ha b hb => ?_⟩
      have h1 := ht a ha
      rcases List.mem_cons.1 hb with rfl | hb
      · exact h1
      · have := hd b hb; omega
  · rcases cG.1 hx with rfl | hx
    · exact h0.2
    · exact h.most x hx
end Go.Proofs.YtdnjanhdnibkfaaGreatDoor.Jd

namespace Go.Proofs.YtdnjanhdnibkfaaGreatDoor.Jd
open Go.Proofs.Tryz
open Go.Proofs
set_option maxRecDepth 100000
set_option linter.unusedVariables false
set_option linter.unusedSimpArgs false
theorem Hc.less {s : Session} (h : Hc s) (n : Int) : Hc (cE s n) := ⟨h.phase, h.a, h.b, h.len, h.named, fun hp => ⟨(h.free hp).1, by show s.opn.filter _ = []; rw [(h.free hp).2]; rfl⟩, h.opn.less n⟩
end Go.Proofs.YtdnjanhdnibkfaaGreatDoor.Jd

namespace Go.Proofs.YtdnjanhdnibkfaaGreatDoor.Jd
open Go.Proofs.Tryz
open Go.Proofs
open Go.RowKit (Below)
set_option maxRecDepth 100000
set_option maxHeartbeats 8000000
set_option linter.unusedVariables false
set_option linter.unusedSimpArgs false
def Jy (s : Session) (f : Frame) (r : Bk) (now : Int) : Bool := (if ((Aj (Am s) (Aq f) (Br r) now).2.2.2) ≠ 0 then (if Ds = true then (if ((((Aj (Am s) (Aq f) (Br r) now).2.1.length) : Nat) : Int) = 0 then (if ((Aj (Am s) (Aq f) (Br r) now).2.2.1.kind) = 0 ∧ ((Aj (Am s) (Aq f) (Br r) now).2.2.1.stream) = 0 ∧ ((Aj (Am s) (Aq f) (Br r) now).2.2.1.data) = ([] : An) ∧ ((Aj (Am s) (Aq f) (Br r) now).2.2.1.n) = 0 ∧ ((Aj (Am s) (Aq f) (Br r) now).2.2.1.target.addr) = 0 ∧ ((Aj (Am s) (Aq f) (Br r) now).2.2.1.target.port) = 0 then (if (!(Fv (Am s))) = true then true else (!(Dy (Aq f)))) else false) else false) else false) else (if 1 < ((((Aj (Am s) (Aq f) (Br r) now).2.1.length) : Nat) : Int) then false else (if ((((Aj (Am s) (Aq f) (Br r) now).2.1.length) : Nat) : Int) = 1 then (if (!(Dy (((Aj (Am s) (Aq f) (Br r) now).2.1).getD 0 default))) = true then false else (if ((((Aj (Am s) (Aq f) (Br r) now).2.1).getD 0 default).stream) ≠ ((Aq f).stream) then false else (if Ds = true then (if (Fv ((Aj (Am s) (Aq f) (Br r) now).1)) = true then (if ((Aj (Am s) (Aq f) (Br r) now).1.a) = ((Am s).a) then (if ((Aj (Am s) (Aq f) (Br r) now).1.b) = ((Am s).b) then (if ((Am s).phase) ≠ 3 then (if ((Aj (Am s) (Aq f) (Br r) now).1.phase) = 3 then (decide (((Aj (Am s) (Aq f) (Br r) now).2.2.1.kind) = 6) == decide (((Am s).phase) ≠ 3)) else (decide (((Aj (Am s) (Aq f) (Br r) now).2.2.1.kind) = 6) == false)) else (if (Nv (Am s) ((Aj (Am s) (Aq f) (Br r) now).1)) = true then false else false)) else false) else false) else false) else false))) else (if Ds = true then (if (Fv ((Aj (Am s) (Aq f) (Br r) now).1)) = true then (if ((Aj (Am s) (Aq f) (Br r) now).1.a) = ((Am s).a) then (if ((Aj (Am s) (Aq f) (Br r) now).1.b) = ((Am s).b) then (if ((Am s).phase) ≠ 3 then (if ((Aj (Am s) (Aq f) (Br r) now).1.phase) = 3 then (decide (((Aj (Am s) (Aq f) (Br r) now).2.2.1.kind) = 6) == decide (((Am s).phase) ≠ 3)) else (decide (((Aj (Am s) (Aq f) (Br r) now).2.2.1.kind) = 6) == false)) else (if (Nv (Am s) ((Aj (Am s) (Aq f) (Br r) now).1)) = true then (if ((((Aj (Am s) (Aq f) (Br r) now).2.1.length) : Nat) : Int) = 0 then (if ((Aj (Am s) (Aq f) (Br r) now).2.2.1.kind) = 0 ∧ ((Aj (Am s) (Aq f) (Br r) now).2.2.1.stream) = 0 ∧ ((Aj (Am s) (Aq f) (Br r) now).2.2.1.data) = ([] : An) ∧ ((Aj (Am s) (Aq f) (Br r) now).2.2.1.n) = 0 ∧ ((Aj (Am s) (Aq f) (Br r) now).2.2.1.target.addr) = 0 ∧ ((Aj (Am s) (Aq f) (Br r) now).2.2.1.target.port) = 0 then (if ((Aj (Am s) (Aq f) (Br r) now).1.phase) = 3 then (decide (((Aj (Am s) (Aq f) (Br r) now).2.2.1.kind) = 6) == decide (((Am s).phase) ≠ 3)) else (decide (((Aj (Am s) (Aq f) (Br r) now).2.2.1.kind) = 6) == false)) else false) else false) else false)) else false) else false) else false) else false))))
end Go.Proofs.YtdnjanhdnibkfaaGreatDoor.Jd

namespace Go.Proofs.YtdnjanhdnibkfaaGreatDoor.Jd
open Go.Proofs.Tryz
open Go.Proofs
open Go.RowKit (Below)
set_option maxRecDepth 100000
set_option maxHeartbeats 8000000
set_option linter.unusedVariables false
set_option linter.unusedSimpArgs false
theorem eA (w : World) {s_opn_a : Option Addr} {s_opn_c : Nat} {r_Sg_a : Option Addr} {r_Sg_c : Nat} {r_Su_a : Option Addr} {r_Su_c : Nat} {r_Sf_a : Option Addr} {r_Sf_c : Nat} {r_l_a : Option Addr} {r_l_c : Nat} {r_l_t : List TA} {ea0 : Addr} {ea1 : Addr} {ea2 : Addr} {ea3 : Addr} {ea4 : Addr} {ea5 : Addr} {ea6 : Addr} {ea7 : Addr} {ea8 : Addr} {ea9 : Addr} {ea10 : Addr} {ea11 : Addr} {ea12 : Addr} {ea13 : Addr} {ea14 : Addr} {ea15 : Addr} {s : Session} {f : Frame} {r : Bk} {now : Int} (h_s_opn : Sl w eI 1 s_opn_a s.opn) (k_s_opn : s.opn.length ≤ s_opn_c) (h_r_Sg : Sl w eI 1 r_Sg_a r.slots.gens) (k_r_Sg : r.slots.gens.length ≤ r_Sg_c) (h_r_Su : Sl w eB 1 r_Su_a r.slots.used) (k_r_Su : r.slots.used.length ≤ r_Su_c) (h_r_Sf : Sl w eI 1 r_Sf_a r.slots.free) (k_r_Sf : r.slots.free.length ≤ r_Sf_c) (h_r_l : Yz w Ef 8 DT r_l_a r.l r_l_t) (k_r_l : r.l.length ≤ r_l_c) (hG : Gl w) (hE : Er w ea0 ea1 ea2 ea3 ea4 ea5 ea6 ea7 ea8 ea9 ea10 ea11 ea12 ea13 ea14 ea15) : Ha Tryz.prog 8 [(Value.agg [(vi s.phase), (vt s.name), (vi s.handle.slot), (vi s.handle.gen), (vi s.a), (vi s.b), (vs s_opn_a s.opn.length s_opn_c)].toArray), (Value.agg [(vi f.kind), (vi f.stream), (vt f.data)].toArray), (Value.agg [(vs r_Sg_a r.slots.gens.length r_Sg_c), (vs r_Su_a r.slots.used.length r_Su_c), (vs r_Sf_a r.slots.free.length r_Sf_c), (vs r_l_a r.l.length r_l_c), (vi r.seq)].toArray), (vi now)] w (Value.bool (Jy s f r now)) := by
 have hF := Is.refl (Jy s f r now)
 refine enter func8 ntmps8 (h := ?_)
 refine Z2 ?_
 refine Ak Ag oH (k := fun r1 hr1 => ?_)
 refine Ak Ag Ll (k := fun r2 hr2 => ?_)
 refine Ak Ag mH (k := fun r3 hr3 => ?_)
 refine Z1 ?_
 refine A7 ?_
 refine Z1 ?_
 refine A0 ?_
 rintro w1_1 e1_1 w2_1 hw1_1 ⟨a1_1, c1_1, B1_1, he_1, hf_1, ho1_1, hl1_1⟩
 refine ⟨_, _, he_1, hw1_1.fresh hf_1, ?_⟩
 have hct_14047 := Me s; have hcq_14047 := Pw s
 refine vP ?_
 refine Z2 ?_
 refine AD2 ?_
 have hcf_31844 := Ti f
 refine AH4 ?_
 refine Z77 ?_
 rintro w1_2 e1_2 w2_2 hw1_2 ⟨a1_2, c1_2, t1_2, B_2, he_2, hf_2, hs1_2, hl1_2⟩
 refine ⟨_, _, he_2, hw1_2.fresh hf_2, ?_⟩
 have hcb_2 := cH r
 have hsm_2 := Px r
 refine M4 ?_
 refine rE ?_
 refine A9 ?_
 refine Z34 ?_
 rintro w1_3 e1_3 w2_3 hw1_3 ⟨a1_3, c1_3, a2_3, c2_3, B_3, he_3, hf_3, hs1_3, hs2_3, hl1_3, hl2_3⟩
 refine ⟨_, _, he_3, hw1_3.fresh hf_3, ?_⟩
 refine Kf ?_
 refine K0 ?_
 refine Ak Ag mG (k := fun r4 hr4 => ?_)
 refine Ak Ag z36 (k := fun r5 hr5 => ?_)
 refine fC ?_
 refine Ik ?_
 refine Eu ?_
 refine Dk _ (sk (sk (sa (sx (sa (sd (sk (sk sz)))))))) ?_
 refine Jt ?_
 refine cU ?_
 refine Bi rfl (fun hq1 => ?_) (fun hq1 => ?_)
 ·refine Cb ?_
  refine Sd ?_
  refine Bo 34 rfl (fun hq2 => ?_) (fun hq2 => ?_)
  rotate_left
  ·refine Ab 3 rfl ?_
   refine oJ ?_
   refine Z5 ?_
   refine Ab 8 rfl ?_
   refine Sg ?_
   refine Aa results8 z0 (fun w1 hw1 => ?_)
   exact ⟨(rq ((hF.pos hq1).f hq2)), hw1.ext_out⟩
  refine B9 ?_
  refine dF ?_
  refine Jh ?_
  refine Ao 39 rfl (fun hq3 => ?_) (fun hq3 => ?_)
  rotate_left
  ·refine Ab 3 rfl ?_
   refine Z5 ?_
   refine Ab 8 rfl ?_
   refine Sg ?_
   refine Aa results8 z0 (fun w1 hw1 => ?_)
   exact ⟨(rq (((hF.pos hq1).t hq2).neg hq3)), hw1.ext_out⟩
  refine Ar z85 (k := ?_)
  refine AV6 ?_
  refine Jh ?_
  refine Ao 44 rfl (fun hq4 => ?_) (fun hq4 => ?_)
  rotate_left
  ·refine Ab 8 rfl ?_
   refine Sg ?_
   refine Aa results8 z0 (fun w1 hw1 => ?_)
   exact ⟨(rq ((((hF.pos hq1).t hq2).pos hq3).neg hq4)), hw1.ext_out⟩
  refine BF7 ?_
  refine Ar Hi (k := ?_)
  refine El ?_
  refine Bo 48 rfl (fun hq5 => ?_) (fun hq5 => ?_)
  ·refine Ab 3 rfl ?_
   refine Xj ?_
   refine Xc ?_
   refine Aa results8 z0 (fun w1 hw1 => ?_)
   exact ⟨(rq (((((hF.pos hq1).t hq2).pos hq3).pos hq4).t hq5)), hw1.ext_out⟩
  have hfhq5 := Ry (by simpa using hq5)
  refine Ar z60 (k := ?_)
  refine Kj (Ac call30) (fun w1 hw1 => Zg w1 (f := (Aq f))) (k := ?_)
  refine Ar Hi (k := ?_)
  refine Ys ?_
  refine Xc ?_
  refine Aa results8 z0 (fun w1 hw1 => ?_)
  exact ⟨(rq (((((hF.pos hq1).t hq2).pos hq3).pos hq4).f hq5)), hw1.ext_out⟩
 refine Yq ?_
 refine Eu ?_
 refine Eh mixed 24 [(true, 0), (true, 1), (true, 2), (true, 3), (true, 4), (true, 5), (true, 6), (true, 7), (true, 8), (true, 9), (true, 10), (false, 11), (true, 12), (true, 13), (true, 14), (true, 15), (true, 16), (true, 17), (true, 18), (true, 19), (true, 20), (true, 21), (true, 22), (true, 23)] z2 ?_
 refine Fo ?_
 refine Be (Fg runUnderlying39) (k := ?_)
 refine Be Ln (k := ?_)
 refine Fo ?_
 refine Dg 57 rfl (fun hq6 => ?_) (fun hq6 => ?_)
 ·refine Ay 19 rfl ?_
  refine oZ ?_
  refine Ku rfl ?_
  refine Eu ?_
  refine Dk _ (sk (sk (sa (sa (sd (sk sz)))))) ?_
  refine Lk ?_
  refine Aa results8 z0 (fun w1 hw1 => ?_)
  exact ⟨(rq ((hF.neg hq1).pos hq6)), hw1.ext_out⟩
 refine AG7 ?_
 refine fT ?_
 refine Ht ?_
 refine Dg 61 rfl (fun hq7 => ?_) (fun hq7 => ?_)
 ·refine Bu Gf (k := ?_)
  refine BK7 ?_
  refine Bu (Gt isAgg28 sizeOf28 0 (Hd.slj hs2_3) (gD z4)) (k := ?_)
  refine Ms (Ac call30) (fun w1 hw1 => Zg w1 (f := (((Aj (Am s) (Aq f) (Br r) now).2.1).getD 0 default))) (k := ?_)
  refine Bu Hi (k := ?_)
  refine Ht ?_
  refine Fp 67 rfl (fun hq8 => ?_) (fun hq8 => ?_)
  ·refine Ay 7 rfl ?_
   refine iX ?_
   refine iX ?_
   refine cR ?_
   refine Ku rfl ?_
   refine Eu ?_
   refine Dk _ (sk (sk (sa (sa (sd (sk sz)))))) ?_
   refine Lk ?_
   refine Aa results8 z0 (fun w1 hw1 => ?_)
   exact ⟨(rq ((((hF.neg hq1).neg hq6).pos hq7).t hq8)), hw1.ext_out⟩
  have hfhq8 := dY (by simpa using hq8)
  refine Ht ?_
  refine BK7 ?_
  refine Bu (Yw Ke) (k := ?_)
  refine Bu (Ci isAgg3 0 1 (Hd.slj hs2_3) (gD z4)) (k := ?_)
  refine Bu (Al Ke) (k := ?_)
  refine BE5 ?_
  refine Ub ?_
  refine iX ?_
  refine cR ?_
  refine Bi rfl (fun hq9 => ?_) (fun hq9 => ?_)
  ·refine Cb ?_
   refine Dk _ (sk (sk (sa (sa (sd (sk sz)))))) ?_
   refine Lk ?_
   refine Aa results8 z0 (fun w1 hw1 => ?_)
   exact ⟨(rq (((((hF.neg hq1).neg hq6).pos hq7).f hq8).pos hq9)), hw1.ext_out⟩
  refine Yq ?_
  refine Dk _ (sk (sk (sa (sa (sd (sk sz)))))) ?_
  refine Sd ?_
  refine Bo 79 rfl (fun hq10 => ?_) (fun hq10 => ?_)
  rotate_left
  ·refine Ab 2 rfl ?_
   refine Ou ?_
   refine Ou ?_
   refine Z5 ?_
   refine Ab 18 rfl ?_
   refine Z5 ?_
   refine gK ?_
   refine Aa results8 z0 (fun w1 hw1 => ?_)
   exact ⟨(rq ((((((hF.neg hq1).neg hq6).pos hq7).f hq8).neg hq9).f hq10)), hw1.ext_out⟩
  refine BK6 ?_
  refine Jh ?_
  refine Bo 83 rfl (fun hq11 => ?_) (fun hq11 => ?_)
  rotate_left
  ·refine Ab 5 rfl ?_
   refine Ou ?_
   refine Z5 ?_
   refine Ab 18 rfl ?_
   refine Z5 ?_
   refine gK ?_
   refine Aa results8 z0 (fun w1 hw1 => ?_)
   exact ⟨(rq (((((((hF.neg hq1).neg hq6).pos hq7).f hq8).neg hq9).t hq10).f hq11)), hw1.ext_out⟩
  have hfhq11 := Ry hq11
  refine oO ?_
  refine Ar (Al Qq) (k := ?_)
  refine fS ?_
  refine Ao 90 rfl (fun hq12 => ?_) (fun hq12 => ?_)
  rotate_left
  ·refine Ab 5 rfl ?_
   refine Z5 ?_
   refine Ab 18 rfl ?_
   refine Z5 ?_
   refine gK ?_
   refine Aa results8 z0 (fun w1 hw1 => ?_)
   exact ⟨(rq ((((((((hF.neg hq1).neg hq6).pos hq7).f hq8).neg hq9).t hq10).t hq11).neg hq12)), hw1.ext_out⟩
  refine oP ?_
  refine Ar (Al Qr) (k := ?_)
  refine fS ?_
  refine Ao 97 rfl (fun hq13 => ?_) (fun hq13 => ?_)
  rotate_left
  ·refine Ab 18 rfl ?_
   refine Z5 ?_
   refine gK ?_
   refine Aa results8 z0 (fun w1 hw1 => ?_)
   exact ⟨(rq (((((((((hF.neg hq1).neg hq6).pos hq7).f hq8).neg hq9).t hq10).t hq11).pos hq12).neg hq13)), hw1.ext_out⟩
  refine Ar z75 (k := ?_)
  refine A3 ?_
  refine El ?_
  refine Ao 101 rfl (fun hq14 => ?_) (fun hq14 => ?_)
  ·refine Ab 13 rfl ?_
   refine Xj ?_
   refine Jh ?_
   refine fK ?_
   refine cQ ?_
   refine El ?_
   refine Ao 124 rfl (fun hq15 => ?_) (fun hq15 => ?_)
   rotate_left
   ·refine Ab 3 rfl ?_
    refine Ys ?_
    refine vM ?_
    refine Aa results8 z0 (fun w1 hw1 => ?_)
    exact ⟨(rq (((((((((((hF.neg hq1).neg hq6).pos hq7).f hq8).neg hq9).t hq10).t hq11).pos hq12).pos hq13).pos hq14).neg hq15)), hw1.ext_out⟩
   refine Ar z75 (k := ?_)
   refine A3 ?_
   refine Xj ?_
   refine vM ?_
   refine Aa results8 z0 (fun w1 hw1 => ?_)
   exact ⟨(rq (((((((((((hF.neg hq1).neg hq6).pos hq7).f hq8).neg hq9).t hq10).t hq11).pos hq12).pos hq13).pos hq14).pos hq15)), hw1.ext_out⟩
  refine wK ?_
  refine BK5 ?_
  refine El ?_
  refine Bo 105 rfl (fun hq16 => ?_) (fun hq16 => ?_)
  rotate_left
  ·refine Ab 3 rfl ?_
   refine Ys ?_
   refine El ?_
   refine Ab 3 rfl ?_
   refine C8 ?_
   refine Jh ?_
   refine gK ?_
   refine Aa results8 z0 (fun w1 hw1 => ?_)
   exact ⟨(rq (((((((((((hF.neg hq1).neg hq6).pos hq7).f hq8).neg hq9).t hq10).t hq11).pos hq12).pos hq13).neg hq14).f hq16)), hw1.ext_out⟩
  refine B9 ?_
  refine dF ?_
  refine Xj ?_
  refine El ?_
  refine Ao 110 rfl (fun hq17 => ?_) (fun hq17 => ?_)
  ·exact absurd (Eq.trans (Eq.symm hq7) hq17) (by decide)
  refine Ab 3 rfl ?_
  refine C8 ?_
  refine Jh ?_
  refine gK ?_
  refine Aa results8 z0 (fun w1 hw1 => ?_)
  exact ⟨(rq (((((((((((hF.neg hq1).neg hq6).pos hq7).f hq8).neg hq9).t hq10).t hq11).pos hq12).pos hq13).neg hq14).t hq16)), hw1.ext_out⟩
 refine Ay 14 rfl ?_
 refine Ub ?_
 refine cR ?_
 refine Rk ?_
 refine Eu ?_
 refine Dk _ (sk (sk (sa (sa (sd (sk sz)))))) ?_
 refine Sd ?_
 refine Bo 79 rfl (fun hq18 => ?_) (fun hq18 => ?_)
 rotate_left
 ·refine Ab 2 rfl ?_
  refine Ou ?_
  refine Ou ?_
  refine Z5 ?_
  refine Ab 18 rfl ?_
  refine Z5 ?_
  refine gK ?_
  refine Aa results8 z0 (fun w1 hw1 => ?_)
  exact ⟨(rq ((((hF.neg hq1).neg hq6).neg hq7).f hq18)), hw1.ext_out⟩
 refine BK6 ?_
 refine Jh ?_
 refine Bo 83 rfl (fun hq19 => ?_) (fun hq19 => ?_)
 rotate_left
 ·refine Ab 5 rfl ?_
  refine Ou ?_
  refine Z5 ?_
  refine Ab 18 rfl ?_
  refine Z5 ?_
  refine gK ?_
  refine Aa results8 z0 (fun w1 hw1 => ?_)
  exact ⟨(rq (((((hF.neg hq1).neg hq6).neg hq7).t hq18).f hq19)), hw1.ext_out⟩
 have hfhq19 := Ry hq19
 refine oO ?_
 refine Ar (Al Qq) (k := ?_)
 refine fS ?_
 refine Ao 90 rfl (fun hq20 => ?_) (fun hq20 => ?_)
 rotate_left
 ·refine Ab 5 rfl ?_
  refine Z5 ?_
  refine Ab 18 rfl ?_
  refine Z5 ?_
  refine gK ?_
  refine Aa results8 z0 (fun w1 hw1 => ?_)
  exact ⟨(rq ((((((hF.neg hq1).neg hq6).neg hq7).t hq18).t hq19).neg hq20)), hw1.ext_out⟩
 refine oP ?_
 refine Ar (Al Qr) (k := ?_)
 refine fS ?_
 refine Ao 97 rfl (fun hq21 => ?_) (fun hq21 => ?_)
 rotate_left
 ·refine Ab 18 rfl ?_
  refine Z5 ?_
  refine gK ?_
  refine Aa results8 z0 (fun w1 hw1 => ?_)
  exact ⟨(rq (((((((hF.neg hq1).neg hq6).neg hq7).t hq18).t hq19).pos hq20).neg hq21)), hw1.ext_out⟩
 refine Ar z75 (k := ?_)
 refine A3 ?_
 refine El ?_
 refine Ao 101 rfl (fun hq22 => ?_) (fun hq22 => ?_)
 ·refine Ab 13 rfl ?_
  refine Xj ?_
  refine Jh ?_
  refine fK ?_
  refine cQ ?_
  refine El ?_
  refine Ao 124 rfl (fun hq23 => ?_) (fun hq23 => ?_)
  rotate_left
  ·refine Ab 3 rfl ?_
   refine Ys ?_
   refine vM ?_
   refine Aa results8 z0 (fun w1 hw1 => ?_)
   exact ⟨(rq (((((((((hF.neg hq1).neg hq6).neg hq7).t hq18).t hq19).pos hq20).pos hq21).pos hq22).neg hq23)), hw1.ext_out⟩
  refine Ar z75 (k := ?_)
  refine A3 ?_
  refine Xj ?_
  refine vM ?_
  refine Aa results8 z0 (fun w1 hw1 => ?_)
  exact ⟨(rq (((((((((hF.neg hq1).neg hq6).neg hq7).t hq18).t hq19).pos hq20).pos hq21).pos hq22).pos hq23)), hw1.ext_out⟩
 refine wK ?_
 refine BK5 ?_
 refine El ?_
 refine Bo 105 rfl (fun hq24 => ?_) (fun hq24 => ?_)
 rotate_left
 ·refine Ab 3 rfl ?_
  refine Ys ?_
  refine El ?_
  refine Ab 3 rfl ?_
  refine C8 ?_
  refine Jh ?_
  refine gK ?_
  refine Aa results8 z0 (fun w1 hw1 => ?_)
  exact ⟨(rq (((((((((hF.neg hq1).neg hq6).neg hq7).t hq18).t hq19).pos hq20).pos hq21).neg hq22).f hq24)), hw1.ext_out⟩
 refine B9 ?_
 refine dF ?_
 refine Xj ?_
 refine El ?_
 refine Ao 110 rfl (fun hq25 => ?_) (fun hq25 => ?_)
 rotate_left
 ·refine Ab 3 rfl ?_
  refine C8 ?_
  refine Jh ?_
  refine gK ?_
  refine Aa results8 z0 (fun w1 hw1 => ?_)
  exact ⟨(rq ((((((((((hF.neg hq1).neg hq6).neg hq7).t hq18).t hq19).pos hq20).pos hq21).neg hq22).t hq24).neg hq25)), hw1.ext_out⟩
 refine Ar z85 (k := ?_)
 refine AV6 ?_
 refine Xj ?_
 refine Ys ?_
 refine Jh ?_
 refine Ao 117 rfl (fun hq26 => ?_) (fun hq26 => ?_)
 rotate_left
 ·refine Ab 12 rfl ?_
  refine Hz ?_
  refine Aa results8 z0 (fun w1 hw1 => ?_)
  exact ⟨(rq (((((((((((hF.neg hq1).neg hq6).neg hq7).t hq18).t hq19).pos hq20).pos hq21).neg hq22).t hq24).pos hq25).neg hq26)), hw1.ext_out⟩
 refine fK ?_
 refine cQ ?_
 refine El ?_
 refine Ao 124 rfl (fun hq27 => ?_) (fun hq27 => ?_)
 rotate_left
 ·refine Ab 3 rfl ?_
  refine Ys ?_
  refine vM ?_
  refine Aa results8 z0 (fun w1 hw1 => ?_)
  exact ⟨(rq ((((((((((((hF.neg hq1).neg hq6).neg hq7).t hq18).t hq19).pos hq20).pos hq21).neg hq22).t hq24).pos hq25).pos hq26).neg hq27)), hw1.ext_out⟩
 refine Ar z75 (k := ?_)
 refine A3 ?_
 refine Xj ?_
 refine vM ?_
 refine Aa results8 z0 (fun w1 hw1 => ?_)
 exact ⟨(rq ((((((((((((hF.neg hq1).neg hq6).neg hq7).t hq18).t hq19).pos hq20).pos hq21).neg hq22).t hq24).pos hq25).pos hq26).pos hq27)), hw1.ext_out⟩

end Go.Proofs.YtdnjanhdnibkfaaGreatDoor.Jd

namespace Go.Proofs.YtdnjanhdnibkfaaGreatDoor.Jd
open Go.Proofs.Tryz
set_option maxRecDepth 100000
set_option linter.unusedVariables false
set_option linter.unusedSimpArgs false
theorem AA2 {a b : Int} (ha : 0 ≤ a ∧ a ≤ 2147483647) (hb : 0 ≤ b ∧ b ≤ 2147483647) : (Ic a b).1.length = 32 := by
  unfold Ic
  rw [show ([a, b] : List Int).getD 0 default = a from rfl, show ([a, b] : List Int).getD 1 default = b from rfl, if_pos ha.1, if_pos ha.2, if_pos hb.1, if_pos hb.2]
  exact Gx _
theorem cJ {f : Frame} (h : Dy f = true) : (0 ≤ f.stream ∧ f.stream ≤ 65535) ∧ (f.kind = 1 → f.stream = 0 ∧ 1 ≤ f.data.length ∧ f.data.length ≤ 64) ∧ (f.kind = 2 → f.stream = 0) ∧ (3 ≤ f.kind → f.kind ≤ 7 → 0 < f.stream) := by
  have h0 := dY h
  unfold Dy at h
  refine ⟨h0.2, fun k => ?_, fun k => ?_, fun k1 k2 => ?_⟩
  · simp only [k, if_true, Uc] at h
    repeat' split at h
    all_goals first | (cases h; done) | skip
    have : f.stream = 0 := by simpa using h
    exact ⟨this, by omega, by omega⟩
  · simp only [k, Uc] at h
    repeat' split at h
    all_goals first | (cases h; done) | (simpa using h) | omega | simp_all
  · have n1 : ¬ f.kind = 1 := by omega
    have n2 : ¬ f.kind = 2 := by omega
    have n8 : ¬ f.kind = 8 := by omega
    generalize (if f.kind = 1 then (true, 1, 64) else (if f.kind = 2 then (true, 32, 32) else (if f.kind = 3 then (true, 1, 64) else (if f.kind = 4 then (true, 1, 512) else (if f.kind = 5 then (true, 2, 2) else (if f.kind = 6 then (true, 0, 0) else (if f.kind = 7 then (true, 0, 0) else (if f.kind = 8 then (true, 0, 8) else ((false, 0, 0) : Bool × Nat × Nat))))))))) = x at h
    obtain ⟨x1, x2, x3⟩ := x
    simp only [Uc, n1, n2, n8, if_false] at h
    repeat' split at h
    all_goals first | (cases h; done) | skip
    have : f.stream ≠ 0 := by simpa using h
    omega
theorem AA3 {n : An} (h : 1 ≤ n.length ∧ n.length ≤ 64) : Dy (Frame.mk 1 0 n) = true := by
  unfold Dy
  simp [Uc]
  omega
theorem AQ0 {c : An} (h : c.length = 32) : Dy (Frame.mk 2 0 c) = true := by
  unfold Dy
  simp [Uc, h]
theorem I2 {n : Int} (h : 0 < n ∧ n ≤ 65535) : Dy (Frame.mk 5 n (Kd 4096).1) = true := by
  have e : (Kd 4096).1.length = 2 := by decide
  unfold Dy
  simp [Uc, e]
  omega
theorem AA4 {n : Int} (h : 0 < n ∧ n ≤ 65535) : Dy (Frame.mk 7 n ([] : An)) = true := by
  unfold Dy
  simp [Uc]
  omega
theorem Hc.dead {s : Session} (h : Hc s) : Hc (zW s) := ⟨(show (0 : Int) ≤ 3 ∧ (3 : Int) ≤ 3 by decide), h.a, h.b, (show ([] : An).length ≤ 64 by decide), ⟨fun h => absurd rfl h, fun h => by rcases h with h | h <;> cases h⟩, fun _ => ⟨⟨rfl, rfl⟩, rfl⟩, Hy.nil⟩
theorem I3 {n : An} (h : 1 ≤ n.length) : n ≠ [] := fun e => by rw [e] at h; cases h
theorem Zj (s : Session) (f : Frame) (r : Bk) (now : Int) : Jy s f r now = true := by
  unfold Jy
  simp only [Jo, if_true]
  have h := Wg (Am s) (Aq f) (Br r) now
  generalize Aj (Am s) (Aq f) (Br r) now = x at h ⊢
  generalize Am s = t at h ⊢
  generalize Aq f = g at h ⊢
  have e := (Zi t t).2 rfl
  cases h with
  | badS h => simp [Wc, h]
  | badF h hf2 => simp [Wc, hf2]
  | dead h hf hp => simp [e, Wc, hp, (Fm t).2 h]
  | ping h hf hp hk =>
    have e2 : Frame.mk 8 g.stream g.data = g := by rw [← hk]
    simp [e, Wc, hp, (Fm t).2 h, e2, hf]
  | hello h hf hp hk =>
    have w := (cJ hf).2.1 hk
    have hn := I3 w.2.1
    have e1 : Hc (Session.mk 1 g.data t.handle t.a t.b t.opn) := ⟨(show (0 : Int) ≤ 1 ∧ (1 : Int) ≤ 3 by decide), h.a, h.b, w.2.2, ⟨fun _ => .inl rfl, fun _ => hn⟩, fun _ => h.free z3, h.opn⟩
    simp [Wc, hp, (Fm _).2 e1, w.1, AQ0 (AA2 h.a h.b)]
  | dies h hf hp hk => simp [uW, hp, (Fm _).2 h.dead]; simp [zW]
  | ready h hf hc =>
    have w := (cJ hf).2.2.1 hc.kind
    have hn : t.name ≠ [] := h.named.2 (.inl hc.phase)
    have hl : 1 ≤ t.name.length := List.length_pos_iff.2 hn
    have e1 : Hc (Session.mk 2 t.name (Ce (Br r) t.name).1.handle t.a t.b t.opn) := ⟨(show (0 : Int) ≤ 2 ∧ (2 : Int) ≤ 3 by decide), h.a, h.b, h.len, ⟨fun _ => .inr rfl, fun _ => hn⟩, fun h => absurd rfl h, h.opn⟩
    simp [hc.phase, (Fm _).2 e1, w, AA3 ⟨hl, h.len⟩]
  | opened h hf hc =>
    have w := cJ hf
    have hs : 0 < g.stream ∧ g.stream ≤ 65535 := ⟨w.2.2.2 (by rw [hc.kind]; decide) (by rw [hc.kind]; decide), w.1.2⟩
    have e1 : Hc (eZ t g.stream) := ⟨h.phase, h.a, h.b, h.len, h.named, fun hp => absurd hc.phase hp, h.opn.more (oF.1 hc.has) hs hc.room⟩
    have e2 : (eZ t g.stream).phase = 2 := hc.phase
    have e3 : (eZ t g.stream).a = t.a := rfl
    have e4 : (eZ t g.stream).b = t.b := rfl
    simp [hc.phase, (Fm _).2 e1, I2 hs, e2, e3, e4]
  | refused h hf hp hk hm =>
    have w := cJ hf
    have hs : 0 < g.stream ∧ g.stream ≤ 65535 := ⟨w.2.2.2 z3 z3, w.1.2⟩
    simp [Wc, hp, (Fm t).2 h, AA4 hs]
  | asks h hf hp hk hh a ha hs =>
    have h1 : ¬ a.kind = 6 := by omega
    simp [hp, (Fm t).2 h, h1]
  | reset h hf hp hk hh =>
    have e2 : (cE t g.stream).phase = 2 := hp
    have e3 : (cE t g.stream).a = t.a := rfl
    have e4 : (cE t g.stream).b = t.b := rfl
    simp [hp, (Fm _).2 (h.less g.stream), e2, e3, e4]
  | gone h hf hp hk hh => simp [Wc, hp, (Fm t).2 h]
end Go.Proofs.YtdnjanhdnibkfaaGreatDoor.Jd

