/- Part of the proofs of this seat: walks and plain facts. No condition. -/
import Derived.Test.YtdnjanhdnibkfaaGreatDoorA0
import Derived.Test.YtdnjanhdnibkfaaGreatDoorProg
import Derived.Test.YtdnjanhdnibkfaaGreatDoorA5
import Derived.Test.YtdnjanhdnibkfaaGreatDoorA1
import Derived.Test.YtdnjanhdnibkfaaGreatDoorA2
import Derived.Test.YtdnjanhdnibkfaaGreatDoorA4
namespace Go.Proofs.YtdnjanhdnibkfaaGreatDoor.Jd
open Go.Proofs.Tryz
open Go.Proofs
open Go.RowKit (Below)
set_option maxRecDepth 100000
set_option maxHeartbeats 8000000
set_option linter.unusedVariables false
set_option linter.unusedSimpArgs false
def Jf (s1 : List Int) (s2 : List Int) : Nat → Nat → Except Bool Nat
  | 0, x_1 => .ok (x_1)
  | n_2 + 1, x_1 => (if ((x_1 : Nat) : Int) < ((s1.length : Nat) : Int) then (if (s1.getD x_1 default) ≠ (s2.getD x_1 default) then .error false else (Jf s1 s2 n_2 (x_1 + 1))) else .ok (x_1))
def eqI (s1 : List Int) (s2 : List Int) : Bool := (if ((s1.length : Nat) : Int) ≠ ((s2.length : Nat) : Int) then false else (Fe (Jf s1 s2 (s1.length + 1) 0) (fun r => r) (fun x_1 => true)))
end Go.Proofs.YtdnjanhdnibkfaaGreatDoor.Jd

namespace Go.Proofs.YtdnjanhdnibkfaaGreatDoor.Jd
open Go.Proofs.Tryz
open Go.Proofs
open Go.RowKit (Below)
set_option maxRecDepth 100000
set_option maxHeartbeats 8000000
set_option linter.unusedVariables false
set_option linter.unusedSimpArgs false
theorem BC1 (w : World) {s1_a : Option Addr} {s1_c : Nat} {s2_a : Option Addr} {s2_c : Nat} {s1 : List Int} {s2 : List Int} (h_s1 : Sl w eI 1 s1_a s1) (n_s1 : s1.length ≤ 1000) (h_s2 : Sl w eI 1 s2_a s2) (n_s2 : s2.length ≤ 1000) : Ha Tryz.prog 68 [(vs s1_a s1.length s1_c), (vs s2_a s2.length s2_c)] w (Value.bool (eqI s1 s2)) := by
 have hF := Is.refl (eqI s1 s2)
 refine enter func68 ntmps68 (h := ?_)
 refine Lj ?_
 refine Qb ?_
 refine Ck ?_
 refine Qb ?_
 refine cU ?_
 refine Bi rfl (fun hq1 => ?_) (fun hq1 => ?_)
 ·refine Cb ?_
  refine Lk ?_
  refine Aa results68 z0 (fun w1 hw1 => ?_)
  exact ⟨(rq (hF.pos hq1)), hw1.ext_out⟩
 refine Py ?_
 refine fL ?_
 refine Yk ?_
 refine Jj (σ1 := Nat) (σ2 := Nat) (fun n_2 x_1 => []) (fun n_2 x_1 => [(0, (vs s1_a s1.length s1_c)), (1, (vs s2_a s2.length s2_c)), (4, (Value.bool false)), (12, (vi ((s1.length : Nat) : Int))), (13, (vi ((x_1 : Nat) : Int)))]) (fun n_2 x_1 => s1.length - x_1 < n_2 ∧ Is (Jf s1 s2 (s1.length + 1) 0) (Jf s1 s2 n_2 x_1) ∧ x_1 ≤ s1.length) (fun n_2 x_1 => n_2) (s1.length + 1) 0 ?_ se (List.Perm.refl _) ?_
 ·exact ⟨Nat.lt_succ_self _, Is.refl _, z7⟩
 ·rintro (_ | n_2) x_1 ⟨hm4, hF3, hi5⟩
  ·omega
  refine Zy ?_
  refine Bi rfl (fun hq2 => ?_) (fun hq2 => ?_)
  rotate_left
  ·refine Cu ?_
   refine Ia ?_
   refine Yp ?_
   refine Aa results68 z0 (fun w1 hw1 => ?_)
   exact ⟨(rq ((hF.neg hq1).ok1 (hF3.neg hq2))), hw1.ext_out⟩
  refine Py ?_
  refine Ib ?_
  refine Ik ?_
  refine AX2 ?_
  refine Li ?_
  refine Be (Cz (n := s1.length) runUnderlying24 sizeOf3 x_1 (Cl.of_base h_s1) (gD z4) Kc) (k := ?_)
  refine Be (Ci isAgg3 x_1 0 (Cl.of_base h_s1) (gD z4)) (k := ?_)
  refine Li ?_
  refine Be (Cz (n := s2.length) runUnderlying24 sizeOf3 x_1 (Cl.of_base h_s2) (gD z4) Kc) (k := ?_)
  refine Be (Ci isAgg3 x_1 0 (Cl.of_base h_s2) (gD z4)) (k := ?_)
  refine Be Ro (k := ?_)
  refine oR ?_
  refine Bi rfl (fun hq3 => ?_) (fun hq3 => ?_)
  rotate_left
  ·refine Cg ?_
   refine Ux ?_
   exact Hu n_2 (x_1 + 1) ⟨by omega, ((hF3.pos hq2).neg hq3), z3⟩ (Nat.lt_succ_self _) se (List.Perm.refl _)
  refine Z2 ?_
  refine Ri ?_
  refine Aa results68 z0 (fun w1 hw1 => ?_)
  exact ⟨(rq ((hF.neg hq1).er1 ((hF3.pos hq2).pos hq3))), hw1.ext_out⟩

end Go.Proofs.YtdnjanhdnibkfaaGreatDoor.Jd

namespace Go.Proofs.YtdnjanhdnibkfaaGreatDoor.Jd
open Go.Proofs.Tryz
open Go.Proofs
open Go.RowKit (Below)
set_option maxRecDepth 100000
set_option maxHeartbeats 8000000
set_option linter.unusedVariables false
set_option linter.unusedSimpArgs false
def Nv (a : Session) (b : Session) : Bool := (if a.phase = b.phase then (if a.name = b.name then (if a.handle.slot = b.handle.slot ∧ a.handle.gen = b.handle.gen then (if a.a = b.a then (if a.b = b.b then (eqI a.opn b.opn) else false) else false) else false) else false) else false)
end Go.Proofs.YtdnjanhdnibkfaaGreatDoor.Jd

namespace Go.Proofs.YtdnjanhdnibkfaaGreatDoor.Jd
open Go.Proofs.Tryz
open Go.Proofs
open Go.RowKit (Below)
set_option maxRecDepth 100000
set_option maxHeartbeats 8000000
set_option linter.unusedVariables false
set_option linter.unusedSimpArgs false
theorem Xa (w : World) {a_opn_a : Option Addr} {a_opn_c : Nat} {b_opn_a : Option Addr} {b_opn_c : Nat} {a : Session} {b : Session} (h_a_opn : Sl w eI 1 a_opn_a a.opn) (n_a_opn : a.opn.length ≤ 1000) (h_b_opn : Sl w eI 1 b_opn_a b.opn) (n_b_opn : b.opn.length ≤ 1000) : Ha Tryz.prog 28 [(Value.agg [(vi a.phase), (vt a.name), (vi a.handle.slot), (vi a.handle.gen), (vi a.a), (vi a.b), (vs a_opn_a a.opn.length a_opn_c)].toArray), (Value.agg [(vi b.phase), (vt b.name), (vi b.handle.slot), (vi b.handle.gen), (vi b.a), (vi b.b), (vs b_opn_a b.opn.length b_opn_c)].toArray)] w (Value.bool (Nv a b)) := by
 have hF := Is.refl (Nv a b)
 refine enter func28 ntmps28 (h := ?_)
 refine Z2 ?_
 refine Ak Ag oH (k := fun r1 hr1 => ?_)
 refine Ak Ag oH (k := fun r2 hr2 => ?_)
 refine Kt ?_
 refine iJ ?_
 refine iJ ?_
 refine sH ?_
 refine Ao 10 rfl (fun hq1 => ?_) (fun hq1 => ?_)
 rotate_left
 ·refine Ab 5 rfl ?_
  refine Ou ?_
  refine Ou ?_
  refine Ou ?_
  refine Ou ?_
  refine Hz ?_
  refine Aa results28 z0 (fun w1 hw1 => ?_)
  exact ⟨(rq (hF.neg hq1)), hw1.ext_out⟩
 refine oQ ?_
 refine oQ ?_
 refine Ar tF (k := ?_)
 refine Jh ?_
 refine Ao 17 rfl (fun hq2 => ?_) (fun hq2 => ?_)
 rotate_left
 ·refine Ab 5 rfl ?_
  refine Ou ?_
  refine Ou ?_
  refine Ou ?_
  refine Hz ?_
  refine Aa results28 z0 (fun w1 hw1 => ?_)
  exact ⟨(rq ((hF.pos hq1).neg hq2)), hw1.ext_out⟩
 refine rR ?_
 refine rR ?_
 refine Ar z81 (k := ?_)
 refine Jh ?_
 refine Ao 24 rfl (fun hq3 => ?_) (fun hq3 => ?_)
 rotate_left
 ·refine Ab 5 rfl ?_
  refine Ou ?_
  refine Ou ?_
  refine Hz ?_
  refine Aa results28 z0 (fun w1 hw1 => ?_)
  exact ⟨(rq (((hF.pos hq1).pos hq2).neg hq3)), hw1.ext_out⟩
 refine oO ?_
 refine Ar (Al Qq) (k := ?_)
 refine fS ?_
 refine Ao 31 rfl (fun hq4 => ?_) (fun hq4 => ?_)
 rotate_left
 ·refine Ab 5 rfl ?_
  refine Ou ?_
  refine Hz ?_
  refine Aa results28 z0 (fun w1 hw1 => ?_)
  exact ⟨(rq ((((hF.pos hq1).pos hq2).pos hq3).neg hq4)), hw1.ext_out⟩
 refine oP ?_
 refine Ar (Al Qr) (k := ?_)
 refine fS ?_
 refine Ao 38 rfl (fun hq5 => ?_) (fun hq5 => ?_)
 rotate_left
 ·refine Ab 5 rfl ?_
  refine Hz ?_
  refine Aa results28 z0 (fun w1 hw1 => ?_)
  exact ⟨(rq (((((hF.pos hq1).pos hq2).pos hq3).pos hq4).neg hq5)), hw1.ext_out⟩
 refine Z45 ?_
 refine Z45 ?_
 refine Kj (Ac call68) (fun w1 hw1 => BC1 w1 (s1 := a.opn) (s2 := b.opn) (h_s1 := (Cl.of_base h_a_opn) w1 hw1) (n_s1 := Ng) (h_s2 := (Cl.of_base h_b_opn) w1 hw1) (n_s2 := Ng)) (k := ?_)
 refine Ot ?_
 refine Aa results28 z0 (fun w1 hw1 => ?_)
 exact ⟨(rq (((((hF.pos hq1).pos hq2).pos hq3).pos hq4).pos hq5)), hw1.ext_out⟩

end Go.Proofs.YtdnjanhdnibkfaaGreatDoor.Jd

namespace Go.Proofs.YtdnjanhdnibkfaaGreatDoor.Jd.SlT
open Go.Proofs.Tryz
open Go.Proofs
open Go.RowKit (Below)
set_option maxRecDepth 100000
set_option linter.unusedVariables false
set_option linter.unusedSimpArgs false

def Jf (s1 : List Int) (s2 : List Int) : Nat → Nat → Except Bool Nat
  | 0, x_1 => .ok (x_1)
  | n_2 + 1, x_1 => (if ((x_1 : Nat) : Int) < ((s1.length : Nat) : Int) then (if (s1.getD x_1 default) ≠ (s2.getD x_1 default) then .error false else (Jf s1 s2 n_2 (x_1 + 1))) else .ok (x_1))
def eqI (s1 : List Int) (s2 : List Int) : Bool := (if ((s1.length : Nat) : Int) ≠ ((s2.length : Nat) : Int) then false else (Fe (Jf s1 s2 (s1.length + 1) 0) (fun r => r) (fun x_1 => true)))
theorem getD_ext {α : Type} [Inhabited α] {a b : List α} (h : a.length = b.length) (h2 : ∀ j, j < a.length → a.getD j default = b.getD j default) : a = b := by
  refine List.ext_getElem h fun j h3 h4 => ?_
  have := h2 j h3
  rwa [qU h3, qU h4] at this
theorem cmp_spec {α : Type} [Inhabited α] (a b : List α) (l : Nat → Nat → Except Bool Nat) (h0 : ∀ n k, a.length ≤ k → l (n + 1) k = .ok k) (h1 : ∀ n k, k < a.length → a.getD k default = b.getD k default → l (n + 1) k = l n (k + 1)) (h2 : ∀ n k, k < a.length → a.getD k default ≠ b.getD k default → l (n + 1) k = .error false) (hl : a.length = b.length) :
    ∀ n k, a.length - k < n → k ≤ a.length → (l n k = .ok a.length ∧ ∀ j, k ≤ j → j < a.length → a.getD j default = b.getD j default) ∨ (l n k = .error false ∧ a ≠ b)
  | 0, k, h, _ => by omega
  | n + 1, k, h, hk => by
    by_cases c1 : k < a.length
    · by_cases c2 : a.getD k default = b.getD k default
      · rw [h1 n k c1 c2]
        rcases cmp_spec a b l h0 h1 h2 hl n (k + 1) z3 z3 with ⟨e, g⟩ | ⟨e, g⟩
        · refine .inl ⟨e, fun j hj hj2 => ?_⟩
          by_cases hjk : j = k
          · subst hjk; exact c2
          · exact g j z3 hj2
        · exact .inr ⟨e, g⟩
      · exact .inr ⟨h2 n k c1 c2, fun e => c2 (by rw [e])⟩
    · obtain rfl : k = a.length := by omega
      exact .inl ⟨h0 n _ (Nat.le_refl _), fun j hj hj2 => by omega⟩
theorem qW (a b : List Int) : eqI a b = true ↔ a = b := by
  unfold eqI
  by_cases hl : a.length = b.length
  · rw [if_neg z3]
    rcases cmp_spec a b (Jf a b) (fun n k h => by simp only [Jf]; rw [if_neg z3]) (fun n k h e => by simp only [Jf]; rw [if_pos z3, if_neg (by simpa using e)]) (fun n k h e => by simp only [Jf]; rw [if_pos z3, if_pos e]) hl (a.length + 1) 0 z3 z3 with ⟨e, g⟩ | ⟨e, g⟩
    · simp only [e, Fe, true_iff]; exact getD_ext hl fun j hj => g j z3 hj
    · simp only [e, Fe, Bool.false_eq_true, false_iff]; exact g
  · rw [if_pos z3]
    simp only [Bool.false_eq_true, false_iff]; exact fun e => hl (by rw [e])
end Go.Proofs.YtdnjanhdnibkfaaGreatDoor.Jd.SlT

namespace Go.Proofs.YtdnjanhdnibkfaaGreatDoor.Jd
open Go.Proofs.Tryz
open Go.Proofs
set_option maxRecDepth 100000
set_option linter.unusedVariables false
set_option linter.unusedSimpArgs false
theorem qW (a b : List Int) : eqI a b = true ↔ a = b := by
  unfold eqI
  by_cases hl : a.length = b.length
  · rw [if_neg z3]
    rcases SlT.cmp_spec (a) (b) (Jf a b) (fun n k h => by simp only [Jf]; rw [if_neg z3]) (fun n k h e => by simp only [Jf]; rw [if_pos z3, if_neg (by simpa using e)]) (fun n k h e => by simp only [Jf]; rw [if_pos z3, if_pos (e)]) hl (a.length + 1) 0 z3 z3 with ⟨e, g⟩ | ⟨e, g⟩
    · simp only [e, Fe, true_iff]; exact SlT.getD_ext hl fun j hj => g j z3 hj
    · simp only [e, Fe, Bool.false_eq_true, false_iff]; exact g
  · rw [if_pos z3]
    simp only [Bool.false_eq_true, false_iff]; exact fun e => hl (by rw [e])
theorem Zi (a b : Session) : Nv a b = true ↔ a = b := by
  unfold Nv
  constructor
  · intro h
    repeat' split at h
    all_goals first | (cases h; done) | skip
    have e := (qW _ _).1 h
    obtain ⟨a1, a2, ⟨a3, a4⟩, a5, a6, a7⟩ := a
    obtain ⟨b1, b2, ⟨b3, b4⟩, b5, b6, b7⟩ := b
    simp_all
  · rintro rfl
    simp [(qW a.opn a.opn).2 rfl]
end Go.Proofs.YtdnjanhdnibkfaaGreatDoor.Jd

