/- Part of the proofs of this seat: walks and plain facts. No condition. -/
import Derived.Test.YtopjaeoklkpcpaaGreatDoorP0
import Derived.Laws.Cells
import Derived.Laws.World
import Derived.Test.YtopjaeoklkpcpaaGreatDoorProg
import Derived.Test.YtopjaeoklkpcpaaGreatDoorP5
import Derived.Test.YtopjaeoklkpcpaaGreatDoorP1
import Derived.Test.YtopjaeoklkpcpaaGreatDoorP2
import Derived.Test.YtopjaeoklkpcpaaGreatDoorP3
import Derived.Test.YtopjaeoklkpcpaaGreatDoorP4
namespace Go.Proofs.YtopjaeoklkpcpaaGreatDoor.Jd
open Go.RowKit (Below)
set_option linter.unusedVariables false
set_option linter.unusedSimpArgs false

section judgements
variable (P : Program) (rd : Option Nat) (b0 : World) (Mk : List Nat) (N : Nat) (D : List Deferred) (ops : Array Oper) (L V : Heap) (E : Env)

end judgements

section steps
variable {P : Program} {rd : Option Nat} {b0 : World} {Mk : List Nat} {N : Nat} {D : List Deferred} {ops : Array Oper} {L V : Heap} {E : Env} {Q : Exit → Act → World → Prop} {T : Act → World → Prop}

variable {op : Op} {ty : TypeId} {pos : String} {after : Array Edge} {v : Value} {d : Nat}

theorem JD_skip {f : Bool} {l : List (Bool × Oper)} {g t : Nat} {b : Bool} {u : Value} (hg : (ops[g]?).bind (·.dst) = some t := by rfl) (hu : look E t = some u := by rfl) (hb : wantB u b = false := by rfl) (ht : Nat.blt t N = true := by rfl)
    (hd : Nat.blt d N = true := by rfl) (k : JD P rd b0 Mk N D ops L V ((d, undef) :: E) l T) :
    JD P rd b0 Mk N D ops L V E ((f, { dst := some d, op := op, type := ty, pos := pos, after := after, guard := some (g, b) }) :: l) T := by
  intro a w ha hw
  have hwant : Region.wanted { dst := some d, op := op, type := ty, pos := pos, after := after, guard := some (g, b) } (yielded ops a.tmps) = false := by
    simp only [Region.wanted]; rw [yielded_of ha hg hu ht]; exact hb
  cases f
  · unfold wpS
    rw [if_neg (by rw [hwant]; simp)]
    exact k _ _ (ha.put hd _) hw
  · unfold wpS
    exact ⟨undef, .inr ⟨hwant, rfl⟩, k _ _ (ha.put hd _) hw⟩

end steps
end Go.Proofs.YtopjaeoklkpcpaaGreatDoor.Jd

namespace Go.Proofs.YtopjaeoklkpcpaaGreatDoor.Jd
open Go.Proofs
open Go.RowKit (Below)
set_option maxRecDepth 100000
set_option maxHeartbeats 8000000
set_option linter.unusedVariables false
set_option linter.unusedSimpArgs false
def cHolds (c : Cred) (now : Int) : Bool := (if c.frm ≤ now then decide (now < c.to) else false)
def cHolding_l0 (l : List Cred) (now : Int) : Nat → Nat → List Cred → Nat × (List Cred)
  | 0, x_1, x_2 => (x_1, x_2)
  | n_3 + 1, x_1, x_2 => (if ((x_1 : Nat) : Int) < ((l.length : Nat) : Int) then (if (cHolds (l.getD x_1 default) now) = true then (cHolding_l0 l now n_3 (x_1 + 1) (x_2 ++ ([(l.getD x_1 default)] : List Cred))) else (cHolding_l0 l now n_3 (x_1 + 1) x_2)) else (x_1, x_2))
def cHolding (l : List Cred) (now : Int) : List Cred := (if (!(cRight l)) = true then [] else (run2 (cHolding_l0 l now (l.length + 1) 0 []) (fun x_1 x_2 => x_2)))
end Go.Proofs.YtopjaeoklkpcpaaGreatDoor.Jd

namespace Go.Proofs.YtopjaeoklkpcpaaGreatDoor.Jd
open Go.Proofs
open Go.RowKit (Below)
set_option maxRecDepth 100000
set_option maxHeartbeats 8000000
set_option linter.unusedVariables false
set_option linter.unusedSimpArgs false
theorem cHolds_ok (w : World) {c : Cred} {now : Int} : Val Tryz.prog 100 [(Value.agg [(vi c.id), (vt c.key), (vi c.frm), (vi c.to)].toArray), (vi now)] w (Value.bool (cHolds c now)) := by
 have hF := Is.refl (cHolds c now)
 refine enter Tryz.func100 Tryz.ntmps100 (h := ?_)
 refine Z2 ?_
 refine JL_a noMk (a_box (l := [_, _, _, _])) (k := fun r1 hr1 => ?_)
 refine Z91 ?_
 refine JL_q (q_fld FO_146_0) (k := ?_)
 refine JL_q (q_fld FO_62_2) (k := ?_)
 refine Z345 ?_
 refine JL_q q_leq (k := ?_)
 refine Z481 ?_
 refine JL_dec 10 rfl (fun hq1 => ?_) (fun hq1 => ?_)
 rotate_left
 ·refine JL_skips 5 rfl ?_
  refine Z26 ?_
  refine JX_ret Tryz.results100 (Res.tmp rfl Res.nil) (fun w1 hw1 => ?_)
  exact ⟨(by rw [(hF.neg hq1).eq] <;> first | rfl | (simp only [List.length_set] <;> rfl)), hw1.ext_out⟩
 refine Z489 ?_
 refine JL_qg (q_fld FO_146_0) (k := ?_)
 refine JL_qg (q_fld FO_62_3) (k := ?_)
 refine Z500 ?_
 refine JL_qg q_lss (k := ?_)
 refine Z79 ?_
 refine JX_ret Tryz.results100 (Res.tmp rfl Res.nil) (fun w1 hw1 => ?_)
 exact ⟨(by rw [(hF.pos hq1).eq] <;> first | rfl | (simp only [List.length_set] <;> rfl)), hw1.ext_out⟩

theorem cHolding_ok (w : World) {l_a : Option Addr} {l_c : Nat} {l : List Cred} {now : Int} (h_l : Sl w eCred 4 l_a l) (n_l : l.length ≤ 1000) : Calls Tryz.prog 24 (List.toArray [(vs l_a l.length l_c), (vi now)]) w fun e w2 => ∃ a1 : Option Addr, ∃ c1 : Nat, ∃ B1 : Heap, e = .returned (vs a1 ((cHolding l now).length) c1) ∧ Fresh w w2 B1 ∧ OwnB eCred 4 62 a1 c1 B1 (cHolding l now) ∧ (cHolding l now).length ≤ 1000 := by
 have hF := Is.refl (cHolding l now)
 refine enter Tryz.func24 Tryz.ntmps24 (h := ?_)
 refine Z216 ?_
 refine JL_v (c_callA Tryz.call57) (fun w1 hw1 => cRight_ok w1 (l := l) (h_l := (SlJ.of_base h_l) w1 hw1) (n_l := by first | exact lb | decide)) (k := ?_)
 refine Z189 ?_
 refine J_cond rfl (fun hq1 => ?_) (fun hq1 => ?_)
 ·refine J_seq ?_
  refine Z270 ?_
  refine JX_ret Tryz.results24 (Res.tmp rfl Res.nil) (fun w1 hw1 => ?_)
  exact ⟨none, 0, [], (by rw [(hF.t hq1).eq] <;> first | rfl | (simp only [List.length_set] <;> rfl)), (hw1.fresh_out.sub (List.nil_sublist _)), (by rw [(hF.t hq1).eq]; exact OwnB.nil), (by rw [(hF.t hq1).eq]; first | exact lb)⟩
 have hfhq1 := cRight_t (by simpa using hq1)
 refine Z14 ?_
 refine Z39 ?_
 refine JL_inl (args := [_, _]) (c_callA Tryz.call59) Tryz.func59 Tryz.ntmps59 ?_
 refine Z2 ?_
 refine JL_a noMk (a_box (l := [_])) (k := fun r1 hr1 => ?_)
 refine JL_a noMk (a_box (l := [_])) (k := fun r2 hr2 => ?_)
 refine Z438 ?_
 refine JX_retI Tryz.results59 (Res.tmp rfl Res.nil) ?_
 refine JL_inl (args := [_]) (c_callA Tryz.call58) Tryz.func58 Tryz.ntmps58 ?_
 refine Z2 ?_
 refine Z107 ?_
 refine JL_inlM (args := [_, _]) (c_callA Tryz.call98) Tryz.func98 Tryz.ntmps98 ?_
 refine Z2 ?_
 refine JL_a noMk (a_box (l := [_])) (k := fun r3 hr3 => ?_)
 refine Z104 ?_
 refine Z305 ?_
 refine J_rangeI noMk rfl Tryz.call99 Tryz.func99 Tryz.ntmps99 (fun l4 rD4 rr4 hl4 => ?_)
 refine Z439 ?_
 refine Z523 ?_
 refine Z368 ?_
 refine J_loop6 (σ1 := Nat) (σ2 := Nat) (σ3 := List Cred) (σ4 := Option Addr) (σ5 := Nat) (σ6 := Heap) (fun n_3 x_1 x_2 x_2a x_2c x_2B => (x_2B ++ ((l4, loopAt rr4 .ready none) :: ((rD4, Obj.deferred (some [])) :: ((r3, oc [(vs x_2a x_2.length x_2c)] 50) :: ((r2, oc [(vi now)] 3) :: ((r1, oc [(vs l_a l.length l_c)] 50) :: []))))))) (fun n_3 x_1 x_2 x_2a x_2c x_2B => [(0, (Value.func (.yield l4) [].toArray [].toArray)), (2, (Value.pointer (some ⟨r2, 0, none⟩))), (7, (vs l_a l.length l_c)), (8, (vi ((l.length : Nat) : Int))), (9, (vi ((x_1 : Nat) : Int)))]) (fun n_3 x_1 x_2 x_2a x_2c x_2B => l.length - x_1 < n_3 ∧ Is (cHolding_l0 l now (l.length + 1) 0 []) (cHolding_l0 l now n_3 x_1 x_2) ∧ OwnB eCred 4 62 x_2a x_2c x_2B x_2 ∧ x_2.length ≤ x_1 ∧ x_1 ≤ l.length) (fun n_3 x_1 x_2 x_2a x_2c x_2B => n_3) (l.length + 1) 0 ([]) none 0 ([]) ?_ se (List.Perm.refl _) ?_
 ·exact ⟨Nat.lt_succ_self _, Is.refl _, OwnB.nil, (by first | omega | rfl | (simp; done)), (by first | omega | rfl | (simp; done))⟩
 ·rintro (_ | n_3) x_1 x_2 x_2a x_2c x_2B ⟨hm5, hF4, hx_2, hi6, hi7⟩
  ·omega
  refine Z38 ?_
  refine J_dec rfl (fun hq2 => ?_) (fun hq2 => ?_)
  rotate_left
  ·refine J_exit ?_
   refine Z191 ?_
   refine JX_it0 (.inr rfl) Tryz.results99 (qc q0) ?_
   refine Z452 ?_
   refine Z523 ?_
   refine Z6 ?_
   refine JX_retIM [rD4] (qa (qc q0)) Tryz.results98 (Res.tmp rfl Res.nil) ?_
   refine Z6 ?_
   refine JX_retI Tryz.results58 (Res.tmp rfl Res.nil) ?_
   refine Z6 ?_
   refine JX_ret Tryz.results24 (Res.tmp rfl Res.nil) (fun w1 hw1 => ?_)
   exact ⟨x_2a, x_2c, x_2B, (by rw [((hF.f hq1).rn2 (hF4.neg hq2)).eq] <;> first | rfl | (simp only [List.length_set] <;> rfl)), (fresh_segs (L := x_2B) (hw1.perm (qb q0)) rfl.symm), (by rw [((hF.f hq1).rn2 (hF4.neg hq2)).eq]; exact hx_2), (by rw [((hF.f hq1).rn2 (hF4.neg hq2)).eq]; first | exact lb)⟩
  refine Z14 ?_
  refine Z61 ?_
  refine Z192 ?_
  refine JL_a noMk (a_alloc (l := [_, _, _, _]) Tryz.zeroValue62) (k := fun r5 hr5 => ?_)
  refine Z377 ?_
  refine Z253 ?_
  refine JL_q q_func (k := ?_)
  refine Z107 ?_
  refine Z499 ?_
  refine JL_v (c_callA Tryz.call100) (fun w1 hw1 => cHolds_ok w1 (c := (l.getD x_1 default)) (now := now)) (k := ?_)
  refine Z481 ?_
  refine JL_bool 19 rfl (fun hq3 => ?_) (fun hq3 => ?_)
  rotate_left
  ·refine JL_skips 4 rfl ?_
   refine Z98 ?_
   refine Z306 ?_
   refine JX_permL _ ((((((qa (qc (qa (qa (qa (qa q0)))))).trans (qa (qa (qc (qa (qa (qa q0))))))).trans (qa (qa (qa (qc (qa (qa q0))))))).trans (qa (qa (qa (qa (qc (qa q0))))))).trans (qa (qa (qa (qa (qa (qc q0))))))).trans (qb (qb (qb (qb (qb (qb q0))))))) ?_
   refine Z534 ?_
   exact JX_inv6 n_3 (x_1 + 1) x_2 x_2a x_2c x_2B ⟨by omega, ((hF4.pos hq2).f hq3), hx_2, (by omega), (by omega)⟩ (Nat.lt_succ_self _) se (List.Perm.refl _)
  refine Z489 ?_
  refine JL_qg (q_loadA Tryz.isAgg62 Tryz.sizeOf62) (k := ?_)
  refine JL_yIng (vs := [(Value.agg [(vi ((l.getD x_1 default).id)), (vt ((l.getD x_1 default).key)), (vi ((l.getD x_1 default).frm)), (vi ((l.getD x_1 default).to))].toArray)]) hl4 (qa (qc q0)) y_call ?_
  refine Z486 ?_
  refine JL_a noMk (a_alloc (l := [_, _, _, _]) Tryz.zeroValue62) (k := fun r6 hr6 => ?_)
  refine Z507 ?_
  refine JL_nil ?_
  refine Z194 ?_
  refine Z523 ?_
  refine Z509 ?_
  refine JL_a noMk (a_bslice (l := [_, _, _, _]) Tryz.runUnderlying50 Tryz.sizeOf62 Tryz.zeroValue62) (k := fun r7 hr7 => ?_)
  refine JL_append (x_2 ++ ([(l.getD x_1 default)] : List Cred)) rfl TY_62 Tryz.underlying50 eCred_ok hx_2 (qb (qb (qb (qb q0)))) (SlJ.lit (xs := ([(l.getD x_1 default)] : List Cred)) eCred_ok) ⟨by omega, by omega⟩ (n := x_2.length) (m := 1) (k := fun ax1 cx1 Bx1 hox1 => ?_)
  have hal1 : (x_2 ++ ([(l.getD x_1 default)] : List Cred)).length = x_2.length + 1 := by first | rfl | exact List.length_append | simp
  refine JL_s (w_store (l' := [_]) Tryz.sizeOf50) (k := ?_)
  refine JL_nil ?_
  refine Z222 ?_
  refine Z306 ?_
  refine Z197 ?_
  exact JX_inv6 n_3 (x_1 + 1) (x_2 ++ ([(l.getD x_1 default)] : List Cred)) ax1 cx1 Bx1 ⟨by omega, ((hF4.pos hq2).t hq3), hox1, (by omega), (by omega)⟩ (Nat.lt_succ_self _) se (List.Perm.refl _)

end Go.Proofs.YtopjaeoklkpcpaaGreatDoor.Jd

namespace Go.Proofs.YtopjaeoklkpcpaaGreatDoor.Jd
set_option linter.unusedVariables false
set_option linter.unusedSimpArgs false
theorem cHolds_iff {c : Cred} {now : Int} : cHolds c now = true ↔ c.frm ≤ now ∧ now < c.to := by
  unfold cHolds
  split <;> simp <;> omega
theorem cHolding_l0_eq (l : List Cred) (now : Int) : ∀ n k acc, l.length < n + k → (cHolding_l0 l now n k acc).2 = acc ++ (l.drop k).filter fun c => cHolds c now
  | 0, k, acc, h => by
    rw [drop_none l k (by omega)]
    simp [cHolding_l0]
  | n + 1, k, acc, h => by
    rw [cHolding_l0]
    by_cases hk : k < l.length
    · rw [if_pos (by omega), drop_getD l k hk, List.filter_cons]
      cases hc : cHolds (l.getD k default) now
      · rw [if_neg (by simp), if_neg (by simp)]
        exact cHolding_l0_eq l now n (k + 1) _ (by omega)
      · rw [if_pos rfl, if_pos rfl, cHolding_l0_eq l now n (k + 1) _ (by omega)]
        simp
    · rw [if_neg (by omega), drop_none l k hk]
      simp
theorem cHolding_eq {l : List Cred} (h : RightL l) (now : Int) : cHolding l now = l.filter fun c => cHolds c now := by
  unfold cHolding
  rw [cRight_iff.2 h, if_neg (by simp)]
  simp only [run2]
  rw [cHolding_l0_eq l now _ _ _ (by omega)]
  simp
variable {l : List Cred} {key : Str} {now ov span : Int}
end Go.Proofs.YtopjaeoklkpcpaaGreatDoor.Jd

namespace Go.Proofs.YtopjaeoklkpcpaaGreatDoor.Jd
set_option maxRecDepth 100000
set_option linter.unusedVariables false
set_option linter.unusedSimpArgs false
theorem hold_last {l : List Cred} {key : Str} {now ov span : Int} (h : (cRot l key now ov span).2.2 = 0) : cHolding (cRot l key now ov span).1 now = (l.filterMap (trimC now ov)).filter (fun c => cHolds c now) ++ [⟨idC 1 l, key, now, now + span⟩] := by
  have k := rot_ok h
  rw [cHolding_eq k.isRight, k.out, List.filter_append, List.filter_cons, if_pos (cHolds_iff.2 ⟨by simp only; omega, by have := k.ss; simp only; omega⟩)]; rfl
end Go.Proofs.YtopjaeoklkpcpaaGreatDoor.Jd

