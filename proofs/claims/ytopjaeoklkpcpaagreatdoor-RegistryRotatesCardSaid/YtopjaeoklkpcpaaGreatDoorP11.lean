/- Part of the proofs of this seat: walks and plain facts. No condition. -/
import Derived.Test.YtopjaeoklkpcpaaGreatDoorP0
import Derived.Test.YtopjaeoklkpcpaaGreatDoorProg
import Derived.Test.YtopjaeoklkpcpaaGreatDoorP5
import Derived.Test.YtopjaeoklkpcpaaGreatDoorP1
import Derived.Test.YtopjaeoklkpcpaaGreatDoorP2
import Derived.Test.YtopjaeoklkpcpaaGreatDoorP3
import Derived.Test.YtopjaeoklkpcpaaGreatDoorP7
import Derived.Test.YtopjaeoklkpcpaaGreatDoorP4
namespace Go.Proofs.YtopjaeoklkpcpaaGreatDoor.Jd
open Go.Proofs
open Go.RowKit (Below)
set_option maxRecDepth 100000
set_option maxHeartbeats 8000000
set_option linter.unusedVariables false
set_option linter.unusedSimpArgs false
def rlSame_l0 (a : List Rule) (b : List Rule) : Nat → Nat → Except Bool Nat
  | 0, i_1 => .ok (i_1)
  | n_2 + 1, i_1 => (if ((i_1 : Nat) : Int) < ((a.length : Nat) : Int) then (if ¬ (((a.getD i_1 default).allow) = ((b.getD i_1 default).allow) ∧ ((a.getD i_1 default).pfx.addr) = ((b.getD i_1 default).pfx.addr) ∧ ((a.getD i_1 default).pfx.bits) = ((b.getD i_1 default).pfx.bits) ∧ ((a.getD i_1 default).prt.lo) = ((b.getD i_1 default).prt.lo) ∧ ((a.getD i_1 default).prt.hi) = ((b.getD i_1 default).prt.hi)) then .error false else (rlSame_l0 a b n_2 (i_1 + 1))) else .ok (i_1))
def rlSame (a : List Rule) (b : List Rule) : Bool := (if ((a.length : Nat) : Int) ≠ ((b.length : Nat) : Int) then false else (outc1 (rlSame_l0 a b (a.length + 1) 0) (fun r => r) (fun i_1 => true)))
end Go.Proofs.YtopjaeoklkpcpaaGreatDoor.Jd

namespace Go.Proofs.YtopjaeoklkpcpaaGreatDoor.Jd
open Go.Proofs
open Go.RowKit (Below)
set_option maxRecDepth 100000
set_option maxHeartbeats 8000000
set_option linter.unusedVariables false
set_option linter.unusedSimpArgs false
theorem rlSame_ok (w : World) {a_a : Option Addr} {a_c : Nat} {b_a : Option Addr} {b_c : Nat} {a : List Rule} {b : List Rule} (h_a : Sl w eRule 5 a_a a) (n_a : a.length ≤ 1001) (h_b : Sl w eRule 5 b_a b) (n_b : b.length ≤ 1001) : Val Tryz.prog 25 [(vs a_a a.length a_c), (vs b_a b.length b_c)] w (Value.bool (rlSame a b)) := by
 have hF := Is.refl (rlSame a b)
 refine enter Tryz.func25 Tryz.ntmps25 (h := ?_)
 refine Z216 ?_
 refine Z501 ?_
 refine Z481 ?_
 refine Z501 ?_
 refine Z190 ?_
 refine J_dec rfl (fun hq1 => ?_) (fun hq1 => ?_)
 ·refine J_seq ?_
  refine Z270 ?_
  refine JX_ret Tryz.results25 (Res.tmp rfl Res.nil) (fun w1 hw1 => ?_)
  exact ⟨(by rw [(hF.pos hq1).eq] <;> first | rfl | (simp only [List.length_set] <;> rfl)), hw1.ext_out⟩
 refine Z167 ?_
 refine Z2 ?_
 refine Z1 ?_
 refine J_block ?_
 refine J_loop2 (σ1 := Nat) (σ2 := Nat) (fun n_2 i_1 => []) (fun n_2 i_1 => [(0, (vs a_a a.length a_c)), (1, (vs b_a b.length b_c)), (4, (Value.bool false)), (5, (vi ((i_1 : Nat) : Int)))]) (fun n_2 i_1 => a.length - i_1 < n_2 ∧ Is (rlSame_l0 a b (a.length + 1) 0) (rlSame_l0 a b n_2 i_1) ∧ i_1 ≤ a.length) (fun n_2 i_1 => n_2) (a.length + 1) 0 ?_ se (List.Perm.refl _) ?_
 ·exact ⟨Nat.lt_succ_self _, Is.refl _, (by first | omega | rfl | (simp; done))⟩
 ·rintro (_ | n_2) i_1 ⟨hm4, hF3, hi5⟩
  ·omega
  refine J_seq ?_
  refine Z39 ?_
  refine Z501 ?_
  refine Z12 ?_
  refine J_dec rfl (fun hq2 => ?_) (fun hq2 => ?_)
  rotate_left
  ·refine J_exit ?_
   refine Z272 ?_
   refine JX_ret Tryz.results25 (Res.tmp rfl Res.nil) (fun w1 hw1 => ?_)
   exact ⟨(by rw [((hF.neg hq1).ok1 (hF3.neg hq2)).eq] <;> first | rfl | (simp only [List.length_set] <;> rfl)), hw1.ext_out⟩
  refine Z460 ?_
  refine J_seq ?_
  refine Z146 ?_
  refine JD_q (q_idx (n := a.length) Tryz.runUnderlying49 Tryz.sizeOf34 i_1 (SlJ.of_base h_a) (gD (by first | exact ix)) (by first | rfl | simp)) (k := ?_)
  refine JD_q (q_loadEA Tryz.isAgg34 Tryz.sizeOf34 i_1 (SlJ.of_base h_a) (gD (by first | exact ix))) (k := ?_)
  refine Z62 ?_
  refine JD_q (q_idx (n := b.length) Tryz.runUnderlying49 Tryz.sizeOf34 i_1 (SlJ.of_base h_b) (gD (by first | exact ix)) (by first | rfl | simp)) (k := ?_)
  refine JD_q (q_loadEA Tryz.isAgg34 Tryz.sizeOf34 i_1 (SlJ.of_base h_b) (gD (by first | exact ix))) (k := ?_)
  refine JD_q (q_neS (NE_34 _ _ _ _ _ _ _ _ _ _ _ _)) (k := ?_)
  refine JD_nil0 ?_
  refine Z0 ?_
  refine J_dec rfl (fun hq3 => ?_) (fun hq3 => ?_)
  rotate_left
  ·refine J_skip ?_
   refine Z17 ?_
   refine Z454 ?_
   refine Z59 ?_
   exact JX_inv2 n_2 (i_1 + 1) ⟨by omega, ((hF3.pos hq2).neg hq3), (by omega)⟩ (Nat.lt_succ_self _) se (List.Perm.refl _)
  refine Z2 ?_
  refine Z105 ?_
  refine JX_ret Tryz.results25 (Res.tmp rfl Res.nil) (fun w1 hw1 => ?_)
  exact ⟨(by rw [((hF.neg hq1).er1 ((hF3.pos hq2).pos hq3)).eq] <;> first | rfl | (simp only [List.length_set] <;> rfl)), hw1.ext_out⟩

end Go.Proofs.YtopjaeoklkpcpaaGreatDoor.Jd

namespace Go.Proofs.YtopjaeoklkpcpaaGreatDoor.Jd
set_option maxRecDepth 100000
set_option linter.unusedVariables false
set_option linter.unusedSimpArgs false
theorem rlSame_iff (a b : List Rule) : rlSame a b = true ↔ a = b := by
  unfold rlSame
  by_cases hl : a.length = b.length
  · rw [if_neg (by omega)]
    rcases SlT.cmp_spec (a) (b) (rlSame_l0 a b) (fun n k h => by simp only [rlSame_l0]; rw [if_neg (by omega)]) (fun n k h e => by simp only [rlSame_l0]; rw [if_pos (by omega), if_neg (by rw [e]; simp)]) (fun n k h e => by simp only [rlSame_l0]; rw [if_pos (by omega), if_pos (fun c => e (by generalize a.getD k default = x at c ⊢; generalize b.getD k default = y at c ⊢; rcases x with ⟨x1, ⟨x2, x3⟩, ⟨x4, x5⟩⟩; rcases y with ⟨y1, ⟨y2, y3⟩, ⟨y4, y5⟩⟩; simp only at c; simp [c]))]) hl (a.length + 1) 0 (by omega) (by omega) with ⟨e, g⟩ | ⟨e, g⟩
    · simp only [e, outc1, true_iff]; exact SlT.getD_ext hl fun j hj => g j (by omega) hj
    · simp only [e, outc1, Bool.false_eq_true, false_iff]; exact g
  · rw [if_pos (by omega)]
    simp only [Bool.false_eq_true, false_iff]; exact fun e => hl (by rw [e])
end Go.Proofs.YtopjaeoklkpcpaaGreatDoor.Jd

