/- Part of the proofs of this seat: walks and plain facts. No condition. -/
import Derived.Test.YtopjaeoklkpcpaaGreatDoorP0
import Derived.IntWalk
import Derived.Laws.StructEq
import Derived.Test.YtopjaeoklkpcpaaGreatDoorProg
import Derived.Test.YtopjaeoklkpcpaaGreatDoorP5
import Derived.Test.YtopjaeoklkpcpaaGreatDoorP1
import Derived.Test.YtopjaeoklkpcpaaGreatDoorP2
import Derived.Test.YtopjaeoklkpcpaaGreatDoorP3
import Derived.Test.YtopjaeoklkpcpaaGreatDoorP7
import Derived.Test.YtopjaeoklkpcpaaGreatDoorP4
namespace Go.Proofs.YtopjaeoklkpcpaaGreatDoor.Jd
open Go.RowKit (Below)
set_option linter.unusedVariables false
set_option linter.unusedSimpArgs false

section ops
variable {P : Program} {b0 : World} {Mk : List Nat} {N : Nat} {D : List Deferred} {L V : Heap} {E : Env} {ty : TypeId}


theorem q_neqB {t t' : TypeId} {x y : Operand} {p q : Bool} (hU : ∀ w, (underlying t).run P w = .ok .bool w) (hx : ev E x = some (.bool p) := by rfl) (hy : ev E y = some (.bool q) := by rfl) :
    RunQ P N D b0 Mk L E (.binOp .neq t x y t') ty (.bool (!(p == q))) := fun a w ha _ => by
  have h := run_eqB (P := P) (w := w) 9999 p q hU
  have h1 : (binOp .neq t (.bool p) (.bool q)).run P w = .ok (.bool (!(p == q))) w := by
    show (do pure (.bool (!(← Op.equal t (.bool p) (.bool q)))) : Sem Value).run P w = _
    simp only [Sem.run_bind, Op.equal, Op.maxDepth, h, Result.andThen_ok, Sem.run_pure]
  simp only [mkO, execOp, ha.eval hx, ha.eval hy, eqGuard, Sem.run_bind]
  simp [h1]

end ops

section fns
variable {P : Program} {f : FuncId} {fn : Func} {c : Code} {args : List Value} {N : Nat} {w : World} {R : Ending → World → Prop}

end fns
end Go.Proofs.YtopjaeoklkpcpaaGreatDoor.Jd

namespace Go.Proofs.YtopjaeoklkpcpaaGreatDoor.Jd
open Go.RowKit (Below)
set_option linter.unusedVariables false
set_option linter.unusedSimpArgs false
theorem run_eqStr {P : Program} {t : TypeId} {w : World} (d : Nat) (p q : Str) (hU : ∀ w, (underlying t).run P w = .ok .string w) : (Op.equalIn (d + 1) t (.string (bs p)) (.string (bs q))).run P w = .ok (decide (p = q)) w := by
  unfold Op.equalIn
  simp only [Sem.run_bind, hU, Result.andThen_ok]
  simp only [Sem.run_pure]
  rw [beq_toListBytes, bs_toList, bs_toList]
  by_cases h : p = q <;> simp [h]

end Go.Proofs.YtopjaeoklkpcpaaGreatDoor.Jd

namespace Go.Proofs.YtopjaeoklkpcpaaGreatDoor.Jd
open Go.Proofs
open Go.RowKit (Below)
set_option maxRecDepth 100000
set_option maxHeartbeats 8000000
set_option linter.unusedVariables false
set_option linter.unusedSimpArgs false
def eqI_l0 (s1 : List Int) (s2 : List Int) : Nat → Nat → Except Bool Nat
  | 0, x_1 => .ok (x_1)
  | n_2 + 1, x_1 => (if ((x_1 : Nat) : Int) < ((s1.length : Nat) : Int) then (if (s1.getD x_1 default) ≠ (s2.getD x_1 default) then .error false else (eqI_l0 s1 s2 n_2 (x_1 + 1))) else .ok (x_1))
def eqI (s1 : List Int) (s2 : List Int) : Bool := (if ((s1.length : Nat) : Int) ≠ ((s2.length : Nat) : Int) then false else (outc1 (eqI_l0 s1 s2 (s1.length + 1) 0) (fun r => r) (fun x_1 => true)))
def eqB_l0 (s1 : List Bool) (s2 : List Bool) : Nat → Nat → Except Bool Nat
  | 0, x_1 => .ok (x_1)
  | n_2 + 1, x_1 => (if ((x_1 : Nat) : Int) < ((s1.length : Nat) : Int) then (if (!((s1.getD x_1 default) == (s2.getD x_1 default))) = true then .error false else (eqB_l0 s1 s2 n_2 (x_1 + 1))) else .ok (x_1))
def eqB (s1 : List Bool) (s2 : List Bool) : Bool := (if ((s1.length : Nat) : Int) ≠ ((s2.length : Nat) : Int) then false else (outc1 (eqB_l0 s1 s2 (s1.length + 1) 0) (fun r => r) (fun x_1 => true)))
def sSame (a : Slots) (b : Slots) : Bool := (if (eqI a.gens b.gens) = true then (if (eqB a.used b.used) = true then (eqI a.free b.free) else false) else false)
end Go.Proofs.YtopjaeoklkpcpaaGreatDoor.Jd

namespace Go.Proofs.YtopjaeoklkpcpaaGreatDoor.Jd
open Go.Proofs
open Go.RowKit (Below)
set_option maxRecDepth 100000
set_option maxHeartbeats 8000000
set_option linter.unusedVariables false
set_option linter.unusedSimpArgs false
def eqRu_l0 (s1 : List Rule) (s2 : List Rule) : Nat → Nat → Except Bool Nat
  | 0, x_1 => .ok (x_1)
  | n_2 + 1, x_1 => (if ((x_1 : Nat) : Int) < ((s1.length : Nat) : Int) then (if ¬ (((s1.getD x_1 default).allow) = ((s2.getD x_1 default).allow) ∧ ((s1.getD x_1 default).pfx.addr) = ((s2.getD x_1 default).pfx.addr) ∧ ((s1.getD x_1 default).pfx.bits) = ((s2.getD x_1 default).pfx.bits) ∧ ((s1.getD x_1 default).prt.lo) = ((s2.getD x_1 default).prt.lo) ∧ ((s1.getD x_1 default).prt.hi) = ((s2.getD x_1 default).prt.hi)) then .error false else (eqRu_l0 s1 s2 n_2 (x_1 + 1))) else .ok (x_1))
def eqRu (s1 : List Rule) (s2 : List Rule) : Bool := (if ((s1.length : Nat) : Int) ≠ ((s2.length : Nat) : Int) then false else (outc1 (eqRu_l0 s1 s2 (s1.length + 1) 0) (fun r => r) (fun x_1 => true)))
def eqCr_l0 (s1 : List Cred) (s2 : List Cred) : Nat → Nat → Except Bool Nat
  | 0, x_1 => .ok (x_1)
  | n_2 + 1, x_1 => (if ((x_1 : Nat) : Int) < ((s1.length : Nat) : Int) then (if ¬ (((s1.getD x_1 default).id) = ((s2.getD x_1 default).id) ∧ ((s1.getD x_1 default).key) = ((s2.getD x_1 default).key) ∧ ((s1.getD x_1 default).frm) = ((s2.getD x_1 default).frm) ∧ ((s1.getD x_1 default).to) = ((s2.getD x_1 default).to)) then .error false else (eqCr_l0 s1 s2 n_2 (x_1 + 1))) else .ok (x_1))
def eqCr (s1 : List Cred) (s2 : List Cred) : Bool := (if ((s1.length : Nat) : Int) ≠ ((s2.length : Nat) : Int) then false else (outc1 (eqCr_l0 s1 s2 (s1.length + 1) 0) (fun r => r) (fun x_1 => true)))
def gIsSame (a : Tenant) (b : Tenant) : Bool := (if a.handle.slot = b.handle.slot ∧ a.handle.gen = b.handle.gen then (if a.name = b.name then (if a.state = b.state then (if a.version = b.version then (if a.deadline = b.deadline then (if (eqRu a.rules b.rules) = true then (eqCr a.creds b.creds) else false) else false) else false) else false) else false) else false)
end Go.Proofs.YtopjaeoklkpcpaaGreatDoor.Jd

namespace Go.Proofs.YtopjaeoklkpcpaaGreatDoor.Jd
open Go.Proofs
open Go.RowKit (Below)
set_option maxRecDepth 100000
set_option maxHeartbeats 8000000
set_option linter.unusedVariables false
set_option linter.unusedSimpArgs false
theorem eqI_ok (w : World) {s1_a : Option Addr} {s1_c : Nat} {s2_a : Option Addr} {s2_c : Nat} {s1 : List Int} {s2 : List Int} (h_s1 : Sl w eI 1 s1_a s1) (n_s1 : s1.length ≤ 1000) (h_s2 : Sl w eI 1 s2_a s2) (n_s2 : s2.length ≤ 1000) : Val Tryz.prog 101 [(vs s1_a s1.length s1_c), (vs s2_a s2.length s2_c)] w (Value.bool (eqI s1 s2)) := by
 have hF := Is.refl (eqI s1 s2)
 refine enter Tryz.func101 Tryz.ntmps101 (h := ?_)
 refine Z216 ?_
 refine Z487 ?_
 refine Z481 ?_
 refine Z487 ?_
 refine Z190 ?_
 refine J_dec rfl (fun hq1 => ?_) (fun hq1 => ?_)
 ·refine J_seq ?_
  refine Z270 ?_
  refine JX_ret Tryz.results101 (Res.tmp rfl Res.nil) (fun w1 hw1 => ?_)
  exact ⟨(by rw [(hF.pos hq1).eq] <;> first | rfl | (simp only [List.length_set] <;> rfl)), hw1.ext_out⟩
 refine Z167 ?_
 refine Z4 ?_
 refine Z323 ?_
 refine J_loop2 (σ1 := Nat) (σ2 := Nat) (fun n_2 x_1 => []) (fun n_2 x_1 => [(0, (vs s1_a s1.length s1_c)), (1, (vs s2_a s2.length s2_c)), (4, (Value.bool false)), (12, (vi ((s1.length : Nat) : Int))), (13, (vi ((x_1 : Nat) : Int)))]) (fun n_2 x_1 => s1.length - x_1 < n_2 ∧ Is (eqI_l0 s1 s2 (s1.length + 1) 0) (eqI_l0 s1 s2 n_2 x_1) ∧ x_1 ≤ s1.length) (fun n_2 x_1 => n_2) (s1.length + 1) 0 ?_ se (List.Perm.refl _) ?_
 ·exact ⟨Nat.lt_succ_self _, Is.refl _, (by first | omega | rfl | (simp; done))⟩
 ·rintro (_ | n_2) x_1 ⟨hm4, hF3, hi5⟩
  ·omega
  refine Z38 ?_
  refine J_dec rfl (fun hq2 => ?_) (fun hq2 => ?_)
  rotate_left
  ·refine J_exit ?_
   refine Z272 ?_
   refine JX_ret Tryz.results101 (Res.tmp rfl Res.nil) (fun w1 hw1 => ?_)
   exact ⟨(by rw [((hF.neg hq1).ok1 (hF3.neg hq2)).eq] <;> first | rfl | (simp only [List.length_set] <;> rfl)), hw1.ext_out⟩
  refine Z476 ?_
  refine Z31 ?_
  refine Z146 ?_
  refine JD_q (q_idx (n := s1.length) Tryz.runUnderlying22 Tryz.sizeOf3 x_1 (SlJ.of_base h_s1) (gD (by first | exact ix)) (by first | rfl | simp)) (k := ?_)
  refine JD_q (q_loadE Tryz.isAgg3 x_1 0 (SlJ.of_base h_s1) (gD (by first | exact ix))) (k := ?_)
  refine Z62 ?_
  refine JD_q (q_idx (n := s2.length) Tryz.runUnderlying22 Tryz.sizeOf3 x_1 (SlJ.of_base h_s2) (gD (by first | exact ix)) (by first | rfl | simp)) (k := ?_)
  refine JD_q (q_loadE Tryz.isAgg3 x_1 0 (SlJ.of_base h_s2) (gD (by first | exact ix))) (k := ?_)
  refine JD_q q_neq (k := ?_)
  refine JD_nil0 ?_
  refine Z0 ?_
  refine J_dec rfl (fun hq3 => ?_) (fun hq3 => ?_)
  rotate_left
  ·refine J_skip ?_
   refine Z40 ?_
   exact JX_inv2 n_2 (x_1 + 1) ⟨by omega, ((hF3.pos hq2).neg hq3), (by omega)⟩ (Nat.lt_succ_self _) se (List.Perm.refl _)
  refine Z2 ?_
  refine Z105 ?_
  refine JX_ret Tryz.results101 (Res.tmp rfl Res.nil) (fun w1 hw1 => ?_)
  exact ⟨(by rw [((hF.neg hq1).er1 ((hF3.pos hq2).pos hq3)).eq] <;> first | rfl | (simp only [List.length_set] <;> rfl)), hw1.ext_out⟩

theorem eqB_ok (w : World) {s1_a : Option Addr} {s1_c : Nat} {s2_a : Option Addr} {s2_c : Nat} {s1 : List Bool} {s2 : List Bool} (h_s1 : Sl w eB 1 s1_a s1) (n_s1 : s1.length ≤ 1000) (h_s2 : Sl w eB 1 s2_a s2) (n_s2 : s2.length ≤ 1000) : Val Tryz.prog 102 [(vs s1_a s1.length s1_c), (vs s2_a s2.length s2_c)] w (Value.bool (eqB s1 s2)) := by
 have hF := Is.refl (eqB s1 s2)
 refine enter Tryz.func102 Tryz.ntmps102 (h := ?_)
 refine Z216 ?_
 refine JL_q (q_lenS Tryz.runUnderlying23) (k := ?_)
 refine Z481 ?_
 refine JL_q (q_lenS Tryz.runUnderlying23) (k := ?_)
 refine Z190 ?_
 refine J_dec rfl (fun hq1 => ?_) (fun hq1 => ?_)
 ·refine J_seq ?_
  refine Z270 ?_
  refine JX_ret Tryz.results102 (Res.tmp rfl Res.nil) (fun w1 hw1 => ?_)
  exact ⟨(by rw [(hF.pos hq1).eq] <;> first | rfl | (simp only [List.length_set] <;> rfl)), hw1.ext_out⟩
 refine Z167 ?_
 refine Z4 ?_
 refine Z367 ?_
 refine J_loop2 (σ1 := Nat) (σ2 := Nat) (fun n_2 x_1 => []) (fun n_2 x_1 => [(0, (vs s1_a s1.length s1_c)), (1, (vs s2_a s2.length s2_c)), (4, (Value.bool false)), (12, (vi ((s1.length : Nat) : Int))), (13, (vi ((x_1 : Nat) : Int)))]) (fun n_2 x_1 => s1.length - x_1 < n_2 ∧ Is (eqB_l0 s1 s2 (s1.length + 1) 0) (eqB_l0 s1 s2 n_2 x_1) ∧ x_1 ≤ s1.length) (fun n_2 x_1 => n_2) (s1.length + 1) 0 ?_ se (List.Perm.refl _) ?_
 ·exact ⟨Nat.lt_succ_self _, Is.refl _, (by first | omega | rfl | (simp; done))⟩
 ·rintro (_ | n_2) x_1 ⟨hm4, hF3, hi5⟩
  ·omega
  refine Z38 ?_
  refine J_dec rfl (fun hq2 => ?_) (fun hq2 => ?_)
  rotate_left
  ·refine J_exit ?_
   refine Z272 ?_
   refine JX_ret Tryz.results102 (Res.tmp rfl Res.nil) (fun w1 hw1 => ?_)
   exact ⟨(by rw [((hF.neg hq1).ok1 (hF3.neg hq2)).eq] <;> first | rfl | (simp only [List.length_set] <;> rfl)), hw1.ext_out⟩
  refine Z476 ?_
  refine Z31 ?_
  refine Z146 ?_
  refine JD_q (q_idx (n := s1.length) Tryz.runUnderlying23 Tryz.sizeOf4 x_1 (SlJ.of_base h_s1) (gD (by first | exact ix)) (by first | rfl | simp)) (k := ?_)
  refine JD_q (q_loadE Tryz.isAgg4 x_1 0 (SlJ.of_base h_s1) (gD (by first | exact ix))) (k := ?_)
  refine Z62 ?_
  refine JD_q (q_idx (n := s2.length) Tryz.runUnderlying23 Tryz.sizeOf4 x_1 (SlJ.of_base h_s2) (gD (by first | exact ix)) (by first | rfl | simp)) (k := ?_)
  refine JD_q (q_loadE Tryz.isAgg4 x_1 0 (SlJ.of_base h_s2) (gD (by first | exact ix))) (k := ?_)
  refine JD_q (q_neqB Tryz.runUnderlying4) (k := ?_)
  refine JD_nil0 ?_
  refine Z0 ?_
  refine J_cond rfl (fun hq3 => ?_) (fun hq3 => ?_)
  rotate_left
  ·refine J_skip ?_
   refine Z40 ?_
   exact JX_inv2 n_2 (x_1 + 1) ⟨by omega, ((hF3.pos hq2).f hq3), (by omega)⟩ (Nat.lt_succ_self _) se (List.Perm.refl _)
  refine Z2 ?_
  refine Z105 ?_
  refine JX_ret Tryz.results102 (Res.tmp rfl Res.nil) (fun w1 hw1 => ?_)
  exact ⟨(by rw [((hF.neg hq1).er1 ((hF3.pos hq2).t hq3)).eq] <;> first | rfl | (simp only [List.length_set] <;> rfl)), hw1.ext_out⟩

theorem sSame_ok (w : World) {a_gens_a : Option Addr} {a_gens_c : Nat} {a_used_a : Option Addr} {a_used_c : Nat} {a_free_a : Option Addr} {a_free_c : Nat} {b_gens_a : Option Addr} {b_gens_c : Nat} {b_used_a : Option Addr} {b_used_c : Nat} {b_free_a : Option Addr} {b_free_c : Nat} {a : Slots} {b : Slots} (h_a_gens : Sl w eI 1 a_gens_a a.gens) (n_a_gens : a.gens.length ≤ 1000) (h_a_used : Sl w eB 1 a_used_a a.used) (n_a_used : a.used.length ≤ 1000) (h_a_free : Sl w eI 1 a_free_a a.free) (n_a_free : a.free.length ≤ 1000) (h_b_gens : Sl w eI 1 b_gens_a b.gens) (n_b_gens : b.gens.length ≤ 1000) (h_b_used : Sl w eB 1 b_used_a b.used) (n_b_used : b.used.length ≤ 1000) (h_b_free : Sl w eI 1 b_free_a b.free) (n_b_free : b.free.length ≤ 1000) : Val Tryz.prog 60 [(Value.agg [(vs a_gens_a a.gens.length a_gens_c), (vs a_used_a a.used.length a_used_c), (vs a_free_a a.free.length a_free_c)].toArray), (Value.agg [(vs b_gens_a b.gens.length b_gens_c), (vs b_used_a b.used.length b_used_c), (vs b_free_a b.free.length b_free_c)].toArray)] w (Value.bool (sSame a b)) := by
 have hF := Is.refl (sSame a b)
 refine enter Tryz.func60 Tryz.ntmps60 (h := ?_)
 refine Z2 ?_
 refine JL_a noMk (a_box (l := [_, _, _])) (k := fun r1 hr1 => ?_)
 refine JL_a noMk (a_box (l := [_, _, _])) (k := fun r2 hr2 => ?_)
 refine Z91 ?_
 refine Z179 ?_
 refine Z179 ?_
 refine JL_v (c_callA Tryz.call101) (fun w1 hw1 => eqI_ok w1 (s1 := a.gens) (s2 := b.gens) (h_s1 := (SlJ.of_base h_a_gens) w1 hw1) (n_s1 := by first | exact lb | decide) (h_s2 := (SlJ.of_base h_b_gens) w1 hw1) (n_s2 := by first | exact lb | decide)) (k := ?_)
 refine Z481 ?_
 refine JL_bool 10 rfl (fun hq1 => ?_) (fun hq1 => ?_)
 rotate_left
 ·refine JL_skips 5 rfl ?_
  refine Z203 ?_
  refine JX_ret Tryz.results60 (Res.tmp rfl Res.nil) (fun w1 hw1 => ?_)
  exact ⟨(by rw [(hF.f hq1).eq] <;> first | rfl | (simp only [List.length_set] <;> rfl)), hw1.ext_out⟩
 refine Z188 ?_
 refine Z188 ?_
 refine JL_vg (c_callA Tryz.call102) (fun w1 hw1 => eqB_ok w1 (s1 := a.used) (s2 := b.used) (h_s1 := (SlJ.of_base h_a_used) w1 hw1) (n_s1 := by first | exact lb | decide) (h_s2 := (SlJ.of_base h_b_used) w1 hw1) (n_s2 := by first | exact lb | decide)) (k := ?_)
 refine Z18 ?_
 refine JL_bool 17 rfl (fun hq2 => ?_) (fun hq2 => ?_)
 rotate_left
 ·refine JL_skips 5 rfl ?_
  refine Z26 ?_
  refine JX_ret Tryz.results60 (Res.tmp rfl Res.nil) (fun w1 hw1 => ?_)
  exact ⟨(by rw [((hF.t hq1).f hq2).eq] <;> first | rfl | (simp only [List.length_set] <;> rfl)), hw1.ext_out⟩
 refine JL_qg (q_fld FO_25_2) (k := ?_)
 refine JL_qg (q_load Tryz.isAgg22) (k := ?_)
 refine JL_qg (q_fld FO_25_2) (k := ?_)
 refine JL_qg (q_load Tryz.isAgg22) (k := ?_)
 refine JL_vg (c_callA Tryz.call101) (fun w1 hw1 => eqI_ok w1 (s1 := a.free) (s2 := b.free) (h_s1 := (SlJ.of_base h_a_free) w1 hw1) (n_s1 := by first | exact lb | decide) (h_s2 := (SlJ.of_base h_b_free) w1 hw1) (n_s2 := by first | exact lb | decide)) (k := ?_)
 refine Z79 ?_
 refine JX_ret Tryz.results60 (Res.tmp rfl Res.nil) (fun w1 hw1 => ?_)
 exact ⟨(by rw [((hF.t hq1).t hq2).eq] <;> first | rfl | (simp only [List.length_set] <;> rfl)), hw1.ext_out⟩

end Go.Proofs.YtopjaeoklkpcpaaGreatDoor.Jd

namespace Go.Proofs.YtopjaeoklkpcpaaGreatDoor.Jd
open Go.Proofs
open Go.RowKit (Below)
set_option maxRecDepth 100000
set_option maxHeartbeats 8000000
set_option linter.unusedVariables false
set_option linter.unusedSimpArgs false
theorem EQH_62 (a0 b0 : Int) (a1 b1 : Str) (a2 b2 : Int) (a3 b3 : Int) (n : Nat) (w : World) : (Op.equalIn (n + 2) 62 (Value.agg [vi a0, Value.string (bs a1), vi a2, vi a3].toArray) (Value.agg [vi b0, Value.string (bs b1), vi b2, vi b3].toArray)).run Tryz.prog w = .ok (decide (a0 = b0 ∧ a1 = b1 ∧ a2 = b2 ∧ a3 = b3)) w := by
 rw [show n + 2 = (n + 1) + 1 from rfl]
 unfold Op.equalIn
 simp [part, run_eqI (P := Tryz.prog) (t := 3) n .i64 _ _ Tryz.runUnderlying3, run_eqStr (P := Tryz.prog) (t := 9) n _ _ Tryz.runUnderlying9]
 by_cases h0 : a0 = b0 <;> by_cases h1 : a1 = b1 <;> by_cases h2 : a2 = b2 <;> by_cases h3 : a3 = b3 <;> simp_all
theorem NE_62 (x y : Operand) (a0 b0 : Int) (a1 b1 : Str) (a2 b2 : Int) (a3 b3 : Int) (w : World) : (do eqGuard .neq 62 x y (Value.agg [vi a0, Value.string (bs a1), vi a2, vi a3].toArray) (Value.agg [vi b0, Value.string (bs b1), vi b2, vi b3].toArray); binOp .neq 62 (Value.agg [vi a0, Value.string (bs a1), vi a2, vi a3].toArray) (Value.agg [vi b0, Value.string (bs b1), vi b2, vi b3].toArray) : Sem Value).run Tryz.prog w = .ok (.bool (decide (¬ (a0 = b0 ∧ a1 = b1 ∧ a2 = b2 ∧ a3 = b3)))) w := by
 have h2 : (binOp .neq 62 (Value.agg [vi a0, Value.string (bs a1), vi a2, vi a3].toArray) (Value.agg [vi b0, Value.string (bs b1), vi b2, vi b3].toArray)).run Tryz.prog w = .ok (.bool (decide (¬ (a0 = b0 ∧ a1 = b1 ∧ a2 = b2 ∧ a3 = b3)))) w := by
  show (do pure (.bool (!(← Op.equal 62 _ _))) : Sem Value).run Tryz.prog w = _
  simp only [Sem.run_bind, Op.equal, Op.maxDepth, EQH_62 a0 b0 a1 b1 a2 b2 a3 b3 9998, Result.andThen_ok, Sem.run_pure]
  congr 2
  simp
 simp [eqGuard]
 simpa using h2
end Go.Proofs.YtopjaeoklkpcpaaGreatDoor.Jd

namespace Go.Proofs.YtopjaeoklkpcpaaGreatDoor.Jd
open Go.Proofs
open Go.RowKit (Below)
set_option maxRecDepth 100000
set_option maxHeartbeats 8000000
set_option linter.unusedVariables false
set_option linter.unusedSimpArgs false
theorem eqRu_ok (w : World) {s1_a : Option Addr} {s1_c : Nat} {s2_a : Option Addr} {s2_c : Nat} {s1 : List Rule} {s2 : List Rule} (h_s1 : Sl w eRule 5 s1_a s1) (n_s1 : s1.length ≤ 1000) (h_s2 : Sl w eRule 5 s2_a s2) (n_s2 : s2.length ≤ 1000) : Val Tryz.prog 103 [(vs s1_a s1.length s1_c), (vs s2_a s2.length s2_c)] w (Value.bool (eqRu s1 s2)) := by
 have hF := Is.refl (eqRu s1 s2)
 refine enter Tryz.func103 Tryz.ntmps103 (h := ?_)
 refine Z216 ?_
 refine Z501 ?_
 refine Z481 ?_
 refine Z501 ?_
 refine Z190 ?_
 refine J_dec rfl (fun hq1 => ?_) (fun hq1 => ?_)
 ·refine J_seq ?_
  refine Z270 ?_
  refine JX_ret Tryz.results103 (Res.tmp rfl Res.nil) (fun w1 hw1 => ?_)
  exact ⟨(by rw [(hF.pos hq1).eq] <;> first | rfl | (simp only [List.length_set] <;> rfl)), hw1.ext_out⟩
 refine Z167 ?_
 refine Z4 ?_
 refine Z501 ?_
 refine Z121 ?_
 refine J_loop2 (σ1 := Nat) (σ2 := Nat) (fun n_2 x_1 => []) (fun n_2 x_1 => [(0, (vs s1_a s1.length s1_c)), (1, (vs s2_a s2.length s2_c)), (4, (Value.bool false)), (12, (vi ((s1.length : Nat) : Int))), (13, (vi ((x_1 : Nat) : Int)))]) (fun n_2 x_1 => s1.length - x_1 < n_2 ∧ Is (eqRu_l0 s1 s2 (s1.length + 1) 0) (eqRu_l0 s1 s2 n_2 x_1) ∧ x_1 ≤ s1.length) (fun n_2 x_1 => n_2) (s1.length + 1) 0 ?_ se (List.Perm.refl _) ?_
 ·exact ⟨Nat.lt_succ_self _, Is.refl _, (by first | omega | rfl | (simp; done))⟩
 ·rintro (_ | n_2) x_1 ⟨hm4, hF3, hi5⟩
  ·omega
  refine Z38 ?_
  refine J_dec rfl (fun hq2 => ?_) (fun hq2 => ?_)
  rotate_left
  ·refine J_exit ?_
   refine Z272 ?_
   refine JX_ret Tryz.results103 (Res.tmp rfl Res.nil) (fun w1 hw1 => ?_)
   exact ⟨(by rw [((hF.neg hq1).ok1 (hF3.neg hq2)).eq] <;> first | rfl | (simp only [List.length_set] <;> rfl)), hw1.ext_out⟩
  refine Z476 ?_
  refine Z31 ?_
  refine Z146 ?_
  refine JD_q (q_idx (n := s1.length) Tryz.runUnderlying49 Tryz.sizeOf34 x_1 (SlJ.of_base h_s1) (gD (by first | exact ix)) (by first | rfl | simp)) (k := ?_)
  refine JD_q (q_loadEA Tryz.isAgg34 Tryz.sizeOf34 x_1 (SlJ.of_base h_s1) (gD (by first | exact ix))) (k := ?_)
  refine Z62 ?_
  refine JD_q (q_idx (n := s2.length) Tryz.runUnderlying49 Tryz.sizeOf34 x_1 (SlJ.of_base h_s2) (gD (by first | exact ix)) (by first | rfl | simp)) (k := ?_)
  refine JD_q (q_loadEA Tryz.isAgg34 Tryz.sizeOf34 x_1 (SlJ.of_base h_s2) (gD (by first | exact ix))) (k := ?_)
  refine JD_q (q_neS (NE_34 _ _ _ _ _ _ _ _ _ _ _ _)) (k := ?_)
  refine JD_nil0 ?_
  refine Z0 ?_
  refine J_dec rfl (fun hq3 => ?_) (fun hq3 => ?_)
  rotate_left
  ·refine J_skip ?_
   refine Z40 ?_
   exact JX_inv2 n_2 (x_1 + 1) ⟨by omega, ((hF3.pos hq2).neg hq3), (by omega)⟩ (Nat.lt_succ_self _) se (List.Perm.refl _)
  refine Z2 ?_
  refine Z105 ?_
  refine JX_ret Tryz.results103 (Res.tmp rfl Res.nil) (fun w1 hw1 => ?_)
  exact ⟨(by rw [((hF.neg hq1).er1 ((hF3.pos hq2).pos hq3)).eq] <;> first | rfl | (simp only [List.length_set] <;> rfl)), hw1.ext_out⟩

theorem eqCr_ok (w : World) {s1_a : Option Addr} {s1_c : Nat} {s2_a : Option Addr} {s2_c : Nat} {s1 : List Cred} {s2 : List Cred} (h_s1 : Sl w eCred 4 s1_a s1) (n_s1 : s1.length ≤ 1000) (h_s2 : Sl w eCred 4 s2_a s2) (n_s2 : s2.length ≤ 1000) : Val Tryz.prog 104 [(vs s1_a s1.length s1_c), (vs s2_a s2.length s2_c)] w (Value.bool (eqCr s1 s2)) := by
 have hF := Is.refl (eqCr s1 s2)
 refine enter Tryz.func104 Tryz.ntmps104 (h := ?_)
 refine Z216 ?_
 refine Z508 ?_
 refine Z481 ?_
 refine Z508 ?_
 refine Z190 ?_
 refine J_dec rfl (fun hq1 => ?_) (fun hq1 => ?_)
 ·refine J_seq ?_
  refine Z270 ?_
  refine JX_ret Tryz.results104 (Res.tmp rfl Res.nil) (fun w1 hw1 => ?_)
  exact ⟨(by rw [(hF.pos hq1).eq] <;> first | rfl | (simp only [List.length_set] <;> rfl)), hw1.ext_out⟩
 refine Z167 ?_
 refine Z4 ?_
 refine Z368 ?_
 refine J_loop2 (σ1 := Nat) (σ2 := Nat) (fun n_2 x_1 => []) (fun n_2 x_1 => [(0, (vs s1_a s1.length s1_c)), (1, (vs s2_a s2.length s2_c)), (4, (Value.bool false)), (12, (vi ((s1.length : Nat) : Int))), (13, (vi ((x_1 : Nat) : Int)))]) (fun n_2 x_1 => s1.length - x_1 < n_2 ∧ Is (eqCr_l0 s1 s2 (s1.length + 1) 0) (eqCr_l0 s1 s2 n_2 x_1) ∧ x_1 ≤ s1.length) (fun n_2 x_1 => n_2) (s1.length + 1) 0 ?_ se (List.Perm.refl _) ?_
 ·exact ⟨Nat.lt_succ_self _, Is.refl _, (by first | omega | rfl | (simp; done))⟩
 ·rintro (_ | n_2) x_1 ⟨hm4, hF3, hi5⟩
  ·omega
  refine Z38 ?_
  refine J_dec rfl (fun hq2 => ?_) (fun hq2 => ?_)
  rotate_left
  ·refine J_exit ?_
   refine Z272 ?_
   refine JX_ret Tryz.results104 (Res.tmp rfl Res.nil) (fun w1 hw1 => ?_)
   exact ⟨(by rw [((hF.neg hq1).ok1 (hF3.neg hq2)).eq] <;> first | rfl | (simp only [List.length_set] <;> rfl)), hw1.ext_out⟩
  refine Z476 ?_
  refine Z31 ?_
  refine Z146 ?_
  refine JD_q (q_idx (n := s1.length) Tryz.runUnderlying50 Tryz.sizeOf62 x_1 (SlJ.of_base h_s1) (gD (by first | exact ix)) (by first | rfl | simp)) (k := ?_)
  refine JD_q (q_loadEA Tryz.isAgg62 Tryz.sizeOf62 x_1 (SlJ.of_base h_s1) (gD (by first | exact ix))) (k := ?_)
  refine Z62 ?_
  refine JD_q (q_idx (n := s2.length) Tryz.runUnderlying50 Tryz.sizeOf62 x_1 (SlJ.of_base h_s2) (gD (by first | exact ix)) (by first | rfl | simp)) (k := ?_)
  refine JD_q (q_loadEA Tryz.isAgg62 Tryz.sizeOf62 x_1 (SlJ.of_base h_s2) (gD (by first | exact ix))) (k := ?_)
  refine JD_q (q_neS (NE_62 _ _ _ _ _ _ _ _ _ _)) (k := ?_)
  refine JD_nil0 ?_
  refine Z0 ?_
  refine J_dec rfl (fun hq3 => ?_) (fun hq3 => ?_)
  rotate_left
  ·refine J_skip ?_
   refine Z40 ?_
   exact JX_inv2 n_2 (x_1 + 1) ⟨by omega, ((hF3.pos hq2).neg hq3), (by omega)⟩ (Nat.lt_succ_self _) se (List.Perm.refl _)
  refine Z2 ?_
  refine Z105 ?_
  refine JX_ret Tryz.results104 (Res.tmp rfl Res.nil) (fun w1 hw1 => ?_)
  exact ⟨(by rw [((hF.neg hq1).er1 ((hF3.pos hq2).pos hq3)).eq] <;> first | rfl | (simp only [List.length_set] <;> rfl)), hw1.ext_out⟩

theorem gIsSame_ok (w : World) {a_rules_a : Option Addr} {a_rules_c : Nat} {a_creds_a : Option Addr} {a_creds_c : Nat} {b_rules_a : Option Addr} {b_rules_c : Nat} {b_creds_a : Option Addr} {b_creds_c : Nat} {a : Tenant} {b : Tenant} (h_a_rules : Sl w eRule 5 a_rules_a a.rules) (n_a_rules : a.rules.length ≤ 1000) (h_a_creds : Sl w eCred 4 a_creds_a a.creds) (n_a_creds : a.creds.length ≤ 1000) (h_b_rules : Sl w eRule 5 b_rules_a b.rules) (n_b_rules : b.rules.length ≤ 1000) (h_b_creds : Sl w eCred 4 b_creds_a b.creds) (n_b_creds : b.creds.length ≤ 1000) : Val Tryz.prog 62 [(Value.agg [(vi a.handle.slot), (vi a.handle.gen), (vt a.name), (vi a.state), (vi a.version), (vs a_rules_a a.rules.length a_rules_c), (vs a_creds_a a.creds.length a_creds_c), (vi a.deadline)].toArray), (Value.agg [(vi b.handle.slot), (vi b.handle.gen), (vt b.name), (vi b.state), (vi b.version), (vs b_rules_a b.rules.length b_rules_c), (vs b_creds_a b.creds.length b_creds_c), (vi b.deadline)].toArray)] w (Value.bool (gIsSame a b)) := by
 have hF := Is.refl (gIsSame a b)
 refine enter Tryz.func62 Tryz.ntmps62 (h := ?_)
 refine Z2 ?_
 refine JL_a noMk (a_box (l := [_, _, _, _, _, _, _, _])) (k := fun r1 hr1 => ?_)
 refine JL_a noMk (a_box (l := [_, _, _, _, _, _, _, _])) (k := fun r2 hr2 => ?_)
 refine Z91 ?_
 refine Z336 ?_
 refine Z336 ?_
 refine JL_q (q_eqS (EQ_42 _ _ _ _ _ _)) (k := ?_)
 refine Z481 ?_
 refine JL_dec 10 rfl (fun hq1 => ?_) (fun hq1 => ?_)
 rotate_left
 ·refine JL_skips 5 rfl ?_
  refine Z76 ?_
  refine Z76 ?_
  refine Z76 ?_
  refine Z407 ?_
  refine JX_ret Tryz.results62 (Res.tmp rfl Res.nil) (fun w1 hw1 => ?_)
  exact ⟨(by rw [(hF.neg hq1).eq] <;> first | rfl | (simp only [List.length_set] <;> rfl)), hw1.ext_out⟩
 refine Z375 ?_
 refine Z375 ?_
 refine JL_qg q_eqT (k := ?_)
 refine Z18 ?_
 refine JL_dec 17 rfl (fun hq2 => ?_) (fun hq2 => ?_)
 rotate_left
 ·refine JL_skips 5 rfl ?_
  refine Z76 ?_
  refine Z76 ?_
  refine Z407 ?_
  refine JX_ret Tryz.results62 (Res.tmp rfl Res.nil) (fun w1 hw1 => ?_)
  exact ⟨(by rw [((hF.pos hq1).neg hq2).eq] <;> first | rfl | (simp only [List.length_set] <;> rfl)), hw1.ext_out⟩
 refine JL_qg (q_fld FO_52_2) (k := ?_)
 refine Z500 ?_
 refine Z309 ?_
 refine Z18 ?_
 refine JL_dec 24 rfl (fun hq3 => ?_) (fun hq3 => ?_)
 rotate_left
 ·refine JL_skips 5 rfl ?_
  refine Z76 ?_
  refine Z407 ?_
  refine JX_ret Tryz.results62 (Res.tmp rfl Res.nil) (fun w1 hw1 => ?_)
  exact ⟨(by rw [(((hF.pos hq1).pos hq2).neg hq3).eq] <;> first | rfl | (simp only [List.length_set] <;> rfl)), hw1.ext_out⟩
 refine Z373 ?_
 refine JL_qg (q_fld FO_52_3) (k := ?_)
 refine Z80 ?_
 refine Z18 ?_
 refine JL_dec 31 rfl (fun hq4 => ?_) (fun hq4 => ?_)
 rotate_left
 ·refine JL_skips 5 rfl ?_
  refine Z407 ?_
  refine JX_ret Tryz.results62 (Res.tmp rfl Res.nil) (fun w1 hw1 => ?_)
  exact ⟨(by rw [((((hF.pos hq1).pos hq2).pos hq3).neg hq4).eq] <;> first | rfl | (simp only [List.length_set] <;> rfl)), hw1.ext_out⟩
 refine Z260 ?_
 refine Z445 ?_
 refine Z18 ?_
 refine JL_dec 38 rfl (fun hq5 => ?_) (fun hq5 => ?_)
 rotate_left
 ·refine JL_skips 5 rfl ?_
  refine Z203 ?_
  refine JX_ret Tryz.results62 (Res.tmp rfl Res.nil) (fun w1 hw1 => ?_)
  exact ⟨(by rw [(((((hF.pos hq1).pos hq2).pos hq3).pos hq4).neg hq5).eq] <;> first | rfl | (simp only [List.length_set] <;> rfl)), hw1.ext_out⟩
 refine Z312 ?_
 refine Z312 ?_
 refine JL_vg (c_callA Tryz.call103) (fun w1 hw1 => eqRu_ok w1 (s1 := a.rules) (s2 := b.rules) (h_s1 := (SlJ.of_base h_a_rules) w1 hw1) (n_s1 := by first | exact lb | decide) (h_s2 := (SlJ.of_base h_b_rules) w1 hw1) (n_s2 := by first | exact lb | decide)) (k := ?_)
 refine Z18 ?_
 refine JL_bool 45 rfl (fun hq6 => ?_) (fun hq6 => ?_)
 rotate_left
 ·refine JL_skips 5 rfl ?_
  refine Z26 ?_
  refine JX_ret Tryz.results62 (Res.tmp rfl Res.nil) (fun w1 hw1 => ?_)
  exact ⟨(by rw [((((((hF.pos hq1).pos hq2).pos hq3).pos hq4).pos hq5).f hq6).eq] <;> first | rfl | (simp only [List.length_set] <;> rfl)), hw1.ext_out⟩
 refine Z313 ?_
 refine Z313 ?_
 refine JL_vg (c_callA Tryz.call104) (fun w1 hw1 => eqCr_ok w1 (s1 := a.creds) (s2 := b.creds) (h_s1 := (SlJ.of_base h_a_creds) w1 hw1) (n_s1 := by first | exact lb | decide) (h_s2 := (SlJ.of_base h_b_creds) w1 hw1) (n_s2 := by first | exact lb | decide)) (k := ?_)
 refine Z79 ?_
 refine JX_ret Tryz.results62 (Res.tmp rfl Res.nil) (fun w1 hw1 => ?_)
 exact ⟨(by rw [((((((hF.pos hq1).pos hq2).pos hq3).pos hq4).pos hq5).t hq6).eq] <;> first | rfl | (simp only [List.length_set] <;> rfl)), hw1.ext_out⟩

end Go.Proofs.YtopjaeoklkpcpaaGreatDoor.Jd

namespace Go.Proofs.YtopjaeoklkpcpaaGreatDoor.Jd
open Go.Proofs
open Go.RowKit (Below)
set_option maxRecDepth 100000
set_option maxHeartbeats 8000000
set_option linter.unusedVariables false
set_option linter.unusedSimpArgs false
def gSame_l0 (a : Registry) (b : Registry) : Nat → Nat → Except Bool Nat
  | 0, x_1 => .ok (x_1)
  | n_2 + 1, x_1 => (if ((x_1 : Nat) : Int) < ((a.l.length : Nat) : Int) then (if (!(gIsSame (a.l.getD x_1 default) (b.l.getD x_1 default))) = true then .error false else (gSame_l0 a b n_2 (x_1 + 1))) else .ok (x_1))
def gSame (a : Registry) (b : Registry) : Bool := (if (sSame a.slots b.slots) = true then (if a.seq = b.seq then (if ((a.l.length : Nat) : Int) ≠ ((b.l.length : Nat) : Int) then false else (outc1 (gSame_l0 a b (a.l.length + 1) 0) (fun r => r) (fun x_1 => true))) else false) else false)
end Go.Proofs.YtopjaeoklkpcpaaGreatDoor.Jd

namespace Go.Proofs.YtopjaeoklkpcpaaGreatDoor.Jd
open Go.Proofs
open Go.RowKit (Below)
set_option maxRecDepth 100000
set_option maxHeartbeats 8000000
set_option linter.unusedVariables false
set_option linter.unusedSimpArgs false
theorem gSame_ok (w : World) {a_slots_gens_a : Option Addr} {a_slots_gens_c : Nat} {a_slots_used_a : Option Addr} {a_slots_used_c : Nat} {a_slots_free_a : Option Addr} {a_slots_free_c : Nat} {a_l_a : Option Addr} {a_l_c : Nat} {a_l_t : List TA} {b_slots_gens_a : Option Addr} {b_slots_gens_c : Nat} {b_slots_used_a : Option Addr} {b_slots_used_c : Nat} {b_slots_free_a : Option Addr} {b_slots_free_c : Nat} {b_l_a : Option Addr} {b_l_c : Nat} {b_l_t : List TA} {a : Registry} {b : Registry} (h_a_slots_gens : Sl w eI 1 a_slots_gens_a a.slots.gens) (n_a_slots_gens : a.slots.gens.length ≤ 1000) (h_a_slots_used : Sl w eB 1 a_slots_used_a a.slots.used) (n_a_slots_used : a.slots.used.length ≤ 1000) (h_a_slots_free : Sl w eI 1 a_slots_free_a a.slots.free) (n_a_slots_free : a.slots.free.length ≤ 1000) (h_a_l : SlN w eTenant 8 DT a_l_a a.l a_l_t) (n_a_l : a.l.length ≤ 1000) (k_a_l : a.l.length ≤ a_l_c) (h_b_slots_gens : Sl w eI 1 b_slots_gens_a b.slots.gens) (n_b_slots_gens : b.slots.gens.length ≤ 1000) (h_b_slots_used : Sl w eB 1 b_slots_used_a b.slots.used) (n_b_slots_used : b.slots.used.length ≤ 1000) (h_b_slots_free : Sl w eI 1 b_slots_free_a b.slots.free) (n_b_slots_free : b.slots.free.length ≤ 1000) (h_b_l : SlN w eTenant 8 DT b_l_a b.l b_l_t) (n_b_l : b.l.length ≤ 1000) (k_b_l : b.l.length ≤ b_l_c) (hsm : Small a.l) (hsm2 : Small b.l) : Val Tryz.prog 26 [(Value.agg [(vs a_slots_gens_a a.slots.gens.length a_slots_gens_c), (vs a_slots_used_a a.slots.used.length a_slots_used_c), (vs a_slots_free_a a.slots.free.length a_slots_free_c), (vs a_l_a a.l.length a_l_c), (vi a.seq)].toArray), (Value.agg [(vs b_slots_gens_a b.slots.gens.length b_slots_gens_c), (vs b_slots_used_a b.slots.used.length b_slots_used_c), (vs b_slots_free_a b.slots.free.length b_slots_free_c), (vs b_l_a b.l.length b_l_c), (vi b.seq)].toArray)] w (Value.bool (gSame a b)) := by
 have hF := Is.refl (gSame a b)
 refine enter Tryz.func26 Tryz.ntmps26 (h := ?_)
 refine Z2 ?_
 refine JL_a noMk (a_box (l := [_, _, _, _, _])) (k := fun r1 hr1 => ?_)
 refine JL_a noMk (a_box (l := [_, _, _, _, _])) (k := fun r2 hr2 => ?_)
 refine Z91 ?_
 refine Z224 ?_
 refine Z224 ?_
 refine JL_v (c_callA Tryz.call60) (fun w1 hw1 => sSame_ok w1 (a := a.slots) (b := b.slots) (h_a_gens := (SlJ.of_base h_a_slots_gens) w1 hw1) (n_a_gens := by first | exact lb | decide) (h_a_used := (SlJ.of_base h_a_slots_used) w1 hw1) (n_a_used := by first | exact lb | decide) (h_a_free := (SlJ.of_base h_a_slots_free) w1 hw1) (n_a_free := by first | exact lb | decide) (h_b_gens := (SlJ.of_base h_b_slots_gens) w1 hw1) (n_b_gens := by first | exact lb | decide) (h_b_used := (SlJ.of_base h_b_slots_used) w1 hw1) (n_b_used := by first | exact lb | decide) (h_b_free := (SlJ.of_base h_b_slots_free) w1 hw1) (n_b_free := by first | exact lb | decide)) (k := ?_)
 refine Z481 ?_
 refine JL_bool 10 rfl (fun hq1 => ?_) (fun hq1 => ?_)
 rotate_left
 ·refine JL_skips 5 rfl ?_
  refine Z203 ?_
  refine JX_ret Tryz.results26 (Res.tmp rfl Res.nil) (fun w1 hw1 => ?_)
  exact ⟨(by rw [(hF.f hq1).eq] <;> first | rfl | (simp only [List.length_set] <;> rfl)), hw1.ext_out⟩
 refine Z157 ?_
 refine JL_qg (q_fld FO_28_2) (k := ?_)
 refine Z80 ?_
 refine Z18 ?_
 refine JL_dec 17 rfl (fun hq2 => ?_) (fun hq2 => ?_)
 rotate_left
 ·refine JL_skips 5 rfl ?_
  refine Z26 ?_
  refine JX_ret Tryz.results26 (Res.tmp rfl Res.nil) (fun w1 hw1 => ?_)
  exact ⟨(by rw [((hF.t hq1).neg hq2).eq] <;> first | rfl | (simp only [List.length_set] <;> rfl)), hw1.ext_out⟩
 refine Z259 ?_
 refine Z259 ?_
 refine JL_inlg (args := [_, _, _]) (c_callA Tryz.call61) Tryz.func61 Tryz.ntmps61 ?_
 refine Z216 ?_
 refine Z522 ?_
 refine Z381 ?_
 refine Z190 ?_
 refine J_dec rfl (fun hq3 => ?_) (fun hq3 => ?_)
 ·refine J_seq ?_
  refine Z270 ?_
  refine JX_retI Tryz.results61 (Res.tmp rfl Res.nil) ?_
  refine Z79 ?_
  refine JX_ret Tryz.results26 (Res.tmp rfl Res.nil) (fun w1 hw1 => ?_)
  exact ⟨(by rw [(((hF.t hq1).pos hq2).pos hq3).eq] <;> first | rfl | (simp only [List.length_set] <;> rfl)), hw1.ext_out⟩
 refine Z167 ?_
 refine Z4 ?_
 refine Z522 ?_
 refine Z121 ?_
 refine J_loop2 (σ1 := Nat) (σ2 := Nat) (fun n_2 x_1 => ((r2, oc [(vs b_slots_gens_a b.slots.gens.length b_slots_gens_c), (vs b_slots_used_a b.slots.used.length b_slots_used_c), (vs b_slots_free_a b.slots.free.length b_slots_free_c), (vs b_l_a b.l.length b_l_c), (vi b.seq)] 28) :: ((r1, oc [(vs a_slots_gens_a a.slots.gens.length a_slots_gens_c), (vs a_slots_used_a a.slots.used.length a_slots_used_c), (vs a_slots_free_a a.slots.free.length a_slots_free_c), (vs a_l_a a.l.length a_l_c), (vi a.seq)] 28) :: []))) (fun n_2 x_1 => [(1, (vs b_l_a b.l.length b_l_c)), (2, (Value.func (.func 62) [].toArray [].toArray)), (6, (Value.bool false)), (15, (vs a_l_a a.l.length a_l_c)), (16, (vi ((a.l.length : Nat) : Int))), (17, (vi ((x_1 : Nat) : Int)))]) (fun n_2 x_1 => a.l.length - x_1 < n_2 ∧ Is (gSame_l0 a b (a.l.length + 1) 0) (gSame_l0 a b n_2 x_1) ∧ x_1 ≤ a.l.length) (fun n_2 x_1 => n_2) (a.l.length + 1) 0 ?_ se (List.Perm.refl _) ?_
 ·exact ⟨Nat.lt_succ_self _, Is.refl _, (by first | omega | rfl | (simp; done))⟩
 ·rintro (_ | n_2) x_1 ⟨hm4, hF3, hi5⟩
  ·omega
  refine Z38 ?_
  refine J_dec rfl (fun hq4 => ?_) (fun hq4 => ?_)
  rotate_left
  ·refine J_exit ?_
   refine Z272 ?_
   refine JX_retI Tryz.results61 (Res.tmp rfl Res.nil) ?_
   refine Z79 ?_
   refine JX_ret Tryz.results26 (Res.tmp rfl Res.nil) (fun w1 hw1 => ?_)
   exact ⟨(by rw [((((hF.t hq1).pos hq2).neg hq3).ok1 (hF3.neg hq4)).eq] <;> first | rfl | (simp only [List.length_set] <;> rfl)), hw1.ext_out⟩
  refine Z476 ?_
  refine JL_q (q_idx (n := a.l.length) Tryz.runUnderlying26 Tryz.sizeOf52 x_1 (SlNJ.of_base DT_ok h_a_l).sl (zip_get h_a_l.1 (by first | exact ix)) (zip_len h_a_l.1)) (k := ?_)
  have hcp5 := (h_a_l.2.2 x_1 (by first | exact ix)).2.2.1
  have hcp6 := (h_a_l.2.2 x_1 (by first | exact ix)).2.2.2
  refine JL_q (q_loadEA Tryz.isAgg52 Tryz.sizeOf52 x_1 (SlNJ.of_base DT_ok h_a_l).sl (zip_get h_a_l.1 (by first | exact ix))) (k := ?_)
  refine JL_a noMk (a_alloc (l := [_, _, _, _, _, _, _, _]) Tryz.zeroValue52) (k := fun r3 hr3 => ?_)
  refine Z429 ?_
  refine Z39 ?_
  refine JL_q (q_idx (n := b.l.length) Tryz.runUnderlying26 Tryz.sizeOf52 x_1 (SlNJ.of_base DT_ok h_b_l).sl (zip_get h_b_l.1 (by first | exact ix)) (zip_len h_b_l.1)) (k := ?_)
  have hcp7 := (h_b_l.2.2 x_1 (by first | exact ix)).2.2.1
  have hcp8 := (h_b_l.2.2 x_1 (by first | exact ix)).2.2.2
  refine JL_q (q_loadEA Tryz.isAgg52 Tryz.sizeOf52 x_1 (SlNJ.of_base DT_ok h_b_l).sl (zip_get h_b_l.1 (by first | exact ix))) (k := ?_)
  refine JL_a noMk (a_alloc (l := [_, _, _, _, _, _, _, _]) Tryz.zeroValue52) (k := fun r4 hr4 => ?_)
  refine Z180 ?_
  refine Z4 ?_
  refine Z517 ?_
  refine Z517 ?_
  refine JL_v (c_callA Tryz.call62) (fun w1 hw1 => gIsSame_ok w1 (a := (a.l.getD x_1 default)) (b := (b.l.getD x_1 default)) (h_a_rules := (fun w hw => ((SlNJ.of_base DT_ok h_a_l).at (m := x_1) (by first | exact ix) w hw).1) w1 hw1) (n_a_rules := by first | omega | exact (hsm _ (by omega)).1 | exact (hsm _ (by omega)).2 | exact (hsm2 _ (by omega)).1 | exact (hsm2 _ (by omega)).2) (h_a_creds := (fun w hw => ((SlNJ.of_base DT_ok h_a_l).at (m := x_1) (by first | exact ix) w hw).2.1) w1 hw1) (n_a_creds := by first | omega | exact (hsm _ (by omega)).1 | exact (hsm _ (by omega)).2 | exact (hsm2 _ (by omega)).1 | exact (hsm2 _ (by omega)).2) (h_b_rules := (fun w hw => ((SlNJ.of_base DT_ok h_b_l).at (m := x_1) (by first | exact ix) w hw).1) w1 hw1) (n_b_rules := by first | omega | exact (hsm _ (by omega)).1 | exact (hsm _ (by omega)).2 | exact (hsm2 _ (by omega)).1 | exact (hsm2 _ (by omega)).2) (h_b_creds := (fun w hw => ((SlNJ.of_base DT_ok h_b_l).at (m := x_1) (by first | exact ix) w hw).2.1) w1 hw1) (n_b_creds := by first | omega | exact (hsm _ (by omega)).1 | exact (hsm _ (by omega)).2 | exact (hsm2 _ (by omega)).1 | exact (hsm2 _ (by omega)).2)) (k := ?_)
  refine Z189 ?_
  refine J_cond rfl (fun hq9 => ?_) (fun hq9 => ?_)
  rotate_left
  ·refine J_skip ?_
   refine Z40 ?_
   refine JX_permL _ ((qa (qa (qa q0))).trans (qa (qa (qa q0)))) ?_
   refine JX_subL _ (List.Sublist.cons_cons _ (List.Sublist.cons_cons _ (List.nil_sublist _))) ?_
   exact JX_inv2 n_2 (x_1 + 1) ⟨by omega, ((hF3.pos hq4).f hq9), (by omega)⟩ (Nat.lt_succ_self _) se (List.Perm.refl _)
  refine Z2 ?_
  refine Z105 ?_
  refine JX_retI Tryz.results61 (Res.tmp rfl Res.nil) ?_
  refine Z79 ?_
  refine JX_ret Tryz.results26 (Res.tmp rfl Res.nil) (fun w1 hw1 => ?_)
  exact ⟨(by rw [((((hF.t hq1).pos hq2).neg hq3).er1 ((hF3.pos hq4).t hq9)).eq] <;> first | rfl | (simp only [List.length_set] <;> rfl)), hw1.ext_out⟩

end Go.Proofs.YtopjaeoklkpcpaaGreatDoor.Jd

namespace Go.Proofs.YtopjaeoklkpcpaaGreatDoor.Jd.SlT
open Go.Proofs
open Go.RowKit (Below)
set_option maxRecDepth 100000
set_option linter.unusedVariables false
set_option linter.unusedSimpArgs false

def eqI_l0 (s1 : List Int) (s2 : List Int) : Nat → Nat → Except Bool Nat
  | 0, x_1 => .ok (x_1)
  | n_2 + 1, x_1 => (if ((x_1 : Nat) : Int) < ((s1.length : Nat) : Int) then (if (s1.getD x_1 default) ≠ (s2.getD x_1 default) then .error false else (eqI_l0 s1 s2 n_2 (x_1 + 1))) else .ok (x_1))
def eqI (s1 : List Int) (s2 : List Int) : Bool := (if ((s1.length : Nat) : Int) ≠ ((s2.length : Nat) : Int) then false else (outc1 (eqI_l0 s1 s2 (s1.length + 1) 0) (fun r => r) (fun x_1 => true)))
def eqB_l0 (s1 : List Bool) (s2 : List Bool) : Nat → Nat → Except Bool Nat
  | 0, x_1 => .ok (x_1)
  | n_2 + 1, x_1 => (if ((x_1 : Nat) : Int) < ((s1.length : Nat) : Int) then (if (!((s1.getD x_1 default) == (s2.getD x_1 default))) = true then .error false else (eqB_l0 s1 s2 n_2 (x_1 + 1))) else .ok (x_1))
def eqB (s1 : List Bool) (s2 : List Bool) : Bool := (if ((s1.length : Nat) : Int) ≠ ((s2.length : Nat) : Int) then false else (outc1 (eqB_l0 s1 s2 (s1.length + 1) 0) (fun r => r) (fun x_1 => true)))
theorem eqI_iff (a b : List Int) : eqI a b = true ↔ a = b := by
  unfold eqI
  by_cases hl : a.length = b.length
  · rw [if_neg (by omega)]
    rcases cmp_spec a b (eqI_l0 a b) (fun n k h => by simp only [eqI_l0]; rw [if_neg (by omega)]) (fun n k h e => by simp only [eqI_l0]; rw [if_pos (by omega), if_neg (by simpa using e)]) (fun n k h e => by simp only [eqI_l0]; rw [if_pos (by omega), if_pos e]) hl (a.length + 1) 0 (by omega) (by omega) with ⟨e, g⟩ | ⟨e, g⟩
    · simp only [e, outc1, true_iff]; exact getD_ext hl fun j hj => g j (by omega) hj
    · simp only [e, outc1, Bool.false_eq_true, false_iff]; exact g
  · rw [if_pos (by omega)]
    simp only [Bool.false_eq_true, false_iff]; exact fun e => hl (by rw [e])
theorem eqB_iff (a b : List Bool) : eqB a b = true ↔ a = b := by
  unfold eqB
  by_cases hl : a.length = b.length
  · rw [if_neg (by omega)]
    rcases cmp_spec a b (eqB_l0 a b) (fun n k h => by simp only [eqB_l0]; rw [if_neg (by omega)]) (fun n k h e => by simp only [eqB_l0]; rw [if_pos (by omega), if_neg (by simpa using e)]) (fun n k h e => by simp only [eqB_l0]; rw [if_pos (by omega), if_pos (by simpa using e)]) hl (a.length + 1) 0 (by omega) (by omega) with ⟨e, g⟩ | ⟨e, g⟩
    · simp only [e, outc1, true_iff]; exact getD_ext hl fun j hj => g j (by omega) hj
    · simp only [e, outc1, Bool.false_eq_true, false_iff]; exact g
  · rw [if_pos (by omega)]
    simp only [Bool.false_eq_true, false_iff]; exact fun e => hl (by rw [e])
end Go.Proofs.YtopjaeoklkpcpaaGreatDoor.Jd.SlT

namespace Go.Proofs.YtopjaeoklkpcpaaGreatDoor.Jd
set_option maxRecDepth 100000
set_option linter.unusedVariables false
set_option linter.unusedSimpArgs false
theorem eqI_iff (a b : List Int) : eqI a b = true ↔ a = b := by
  unfold eqI
  by_cases hl : a.length = b.length
  · rw [if_neg (by omega)]
    rcases SlT.cmp_spec (a) (b) (eqI_l0 a b) (fun n k h => by simp only [eqI_l0]; rw [if_neg (by omega)]) (fun n k h e => by simp only [eqI_l0]; rw [if_pos (by omega), if_neg (by simpa using e)]) (fun n k h e => by simp only [eqI_l0]; rw [if_pos (by omega), if_pos (e)]) hl (a.length + 1) 0 (by omega) (by omega) with ⟨e, g⟩ | ⟨e, g⟩
    · simp only [e, outc1, true_iff]; exact SlT.getD_ext hl fun j hj => g j (by omega) hj
    · simp only [e, outc1, Bool.false_eq_true, false_iff]; exact g
  · rw [if_pos (by omega)]
    simp only [Bool.false_eq_true, false_iff]; exact fun e => hl (by rw [e])
theorem eqB_iff (a b : List Bool) : eqB a b = true ↔ a = b := by
  unfold eqB
  by_cases hl : a.length = b.length
  · rw [if_neg (by omega)]
    rcases SlT.cmp_spec (a) (b) (eqB_l0 a b) (fun n k h => by simp only [eqB_l0]; rw [if_neg (by omega)]) (fun n k h e => by simp only [eqB_l0]; rw [if_pos (by omega), if_neg (by simpa using e)]) (fun n k h e => by simp only [eqB_l0]; rw [if_pos (by omega), if_pos (by simpa using e)]) hl (a.length + 1) 0 (by omega) (by omega) with ⟨e, g⟩ | ⟨e, g⟩
    · simp only [e, outc1, true_iff]; exact SlT.getD_ext hl fun j hj => g j (by omega) hj
    · simp only [e, outc1, Bool.false_eq_true, false_iff]; exact g
  · rw [if_pos (by omega)]
    simp only [Bool.false_eq_true, false_iff]; exact fun e => hl (by rw [e])
theorem eqRu_iff (a b : List Rule) : eqRu a b = true ↔ a = b := by
  unfold eqRu
  by_cases hl : a.length = b.length
  · rw [if_neg (by omega)]
    rcases SlT.cmp_spec (a) (b) (eqRu_l0 a b) (fun n k h => by simp only [eqRu_l0]; rw [if_neg (by omega)]) (fun n k h e => by simp only [eqRu_l0]; rw [if_pos (by omega), if_neg (by rw [e]; simp)]) (fun n k h e => by simp only [eqRu_l0]; rw [if_pos (by omega), if_pos (fun c => e (by generalize a.getD k default = x at c ⊢; generalize b.getD k default = y at c ⊢; rcases x with ⟨x1, ⟨x2, x3⟩, ⟨x4, x5⟩⟩; rcases y with ⟨y1, ⟨y2, y3⟩, ⟨y4, y5⟩⟩; simp only at c; simp [c]))]) hl (a.length + 1) 0 (by omega) (by omega) with ⟨e, g⟩ | ⟨e, g⟩
    · simp only [e, outc1, true_iff]; exact SlT.getD_ext hl fun j hj => g j (by omega) hj
    · simp only [e, outc1, Bool.false_eq_true, false_iff]; exact g
  · rw [if_pos (by omega)]
    simp only [Bool.false_eq_true, false_iff]; exact fun e => hl (by rw [e])
theorem eqCr_iff (a b : List Cred) : eqCr a b = true ↔ a = b := by
  unfold eqCr
  by_cases hl : a.length = b.length
  · rw [if_neg (by omega)]
    rcases SlT.cmp_spec (a) (b) (eqCr_l0 a b) (fun n k h => by simp only [eqCr_l0]; rw [if_neg (by omega)]) (fun n k h e => by simp only [eqCr_l0]; rw [if_pos (by omega), if_neg (by rw [e]; simp)]) (fun n k h e => by simp only [eqCr_l0]; rw [if_pos (by omega), if_pos (fun c => e (by generalize a.getD k default = x at c ⊢; generalize b.getD k default = y at c ⊢; cases x; cases y; simp only at c; simp [c]))]) hl (a.length + 1) 0 (by omega) (by omega) with ⟨e, g⟩ | ⟨e, g⟩
    · simp only [e, outc1, true_iff]; exact SlT.getD_ext hl fun j hj => g j (by omega) hj
    · simp only [e, outc1, Bool.false_eq_true, false_iff]; exact g
  · rw [if_pos (by omega)]
    simp only [Bool.false_eq_true, false_iff]; exact fun e => hl (by rw [e])
theorem sSame_iff (a b : Slots) : sSame a b = true ↔ a = b := by
  have e : sSame a b = true ↔ a.gens = b.gens ∧ a.used = b.used ∧ a.free = b.free := by
    unfold sSame
    rw [← eqI_iff, ← eqB_iff, ← eqI_iff]
    cases eqI a.gens b.gens <;> cases eqB a.used b.used <;> simp
  rw [e]
  constructor
  · cases a; cases b; rintro ⟨h1, h2, h3⟩; simp_all
  · rintro rfl; exact ⟨rfl, rfl, rfl⟩
theorem gIsSame_iff (a b : Tenant) : gIsSame a b = true ↔ a = b := by
  have e : gIsSame a b = true ↔ (a.handle.slot = b.handle.slot ∧ a.handle.gen = b.handle.gen) ∧ a.name = b.name ∧ a.state = b.state ∧ a.version = b.version ∧ a.deadline = b.deadline ∧ a.rules = b.rules ∧ a.creds = b.creds := by
    unfold gIsSame
    rw [← eqRu_iff, ← eqCr_iff]
    repeat' split
    all_goals simp_all
  rw [e]
  constructor
  · rcases a with ⟨⟨a1, a2⟩, a3, a4, a5, a6, a7, a8⟩; rcases b with ⟨⟨b1, b2⟩, b3, b4, b5, b6, b7, b8⟩
    rintro ⟨⟨h1, h2⟩, h3, h4, h5, h6, h7, h8⟩
    simp only at h1 h2 h3 h4 h5 h6 h7 h8
    rw [h1, h2, h3, h4, h5, h6, h7, h8]
  · rintro rfl; simp
theorem gSame_iff (a b : Registry) : gSame a b = true ↔ a = b := by
  have key : (a.slots = b.slots ∧ a.seq = b.seq ∧ a.l = b.l) ↔ a = b := by
    constructor
    · cases a; cases b; rintro ⟨h1, h2, h3⟩; simp only at h1 h2 h3; rw [h1, h2, h3]
    · rintro rfl; exact ⟨rfl, rfl, rfl⟩
  rw [← key]
  unfold gSame
  by_cases h1 : a.slots = b.slots
  rotate_left
  · have h1' : sSame a.slots b.slots = false := Bool.eq_false_iff.2 fun h => h1 ((sSame_iff _ _).1 h)
    simp [h1, h1']
  rw [(sSame_iff _ _).2 h1]
  by_cases h2 : a.seq = b.seq
  rotate_left
  · simp [h2]
  by_cases hl : a.l.length = b.l.length
  rotate_left
  · have h3 : ((a.l.length : Nat) : Int) ≠ ((b.l.length : Nat) : Int) := by omega
    simp only [h1, h2, h3, true_and, if_true, ne_eq, not_true_eq_false, not_false_eq_true, if_false, Bool.not_true, Bool.false_eq_true, false_iff]
    exact fun e => hl (by rw [e])
  have h3 : ((a.l.length : Nat) : Int) = ((b.l.length : Nat) : Int) := by omega
  simp only [h1, h2, h3, true_and, if_true, ne_eq, not_true_eq_false, not_false_eq_true, if_false, Bool.not_true, Bool.false_eq_true]
  rcases SlT.cmp_spec (a.l) (b.l) (gSame_l0 a b) (fun n k h => by simp only [gSame_l0]; rw [if_neg (by omega)]) (fun n k h e => by simp only [gSame_l0]; rw [if_pos (by omega), if_neg (by rw [(gIsSame_iff _ _).2 e]; simp)]) (fun n k h e => by simp only [gSame_l0]; rw [if_pos (by omega), if_pos (by simpa using fun c => e ((gIsSame_iff _ _).1 c))]) hl (a.l.length + 1) 0 (by omega) (by omega) with ⟨e, g⟩ | ⟨e, g⟩
  · simp only [e, outc1, true_iff]; exact SlT.getD_ext hl fun j hj => g j (by omega) hj
  · simp only [e, outc1, Bool.false_eq_true, false_iff]; exact g
end Go.Proofs.YtopjaeoklkpcpaaGreatDoor.Jd

