/- Part of the proofs of this seat: walks and plain facts. No condition. -/
import Derived.Test.YtopjaeoklkpcpaaGreatDoorP0
import Derived.Test.YtopjaeoklkpcpaaGreatDoorProg
import Derived.Test.YtopjaeoklkpcpaaGreatDoorP5
import Derived.Test.YtopjaeoklkpcpaaGreatDoorP1
import Derived.Test.YtopjaeoklkpcpaaGreatDoorP2
import Derived.Test.YtopjaeoklkpcpaaGreatDoorP3
import Derived.Test.YtopjaeoklkpcpaaGreatDoorP8
import Derived.Test.YtopjaeoklkpcpaaGreatDoorP11
import Derived.Test.YtopjaeoklkpcpaaGreatDoorP6
import Derived.Test.YtopjaeoklkpcpaaGreatDoorP4
import Derived.Test.YtopjaeoklkpcpaaGreatDoorP7
namespace Go.Proofs.YtopjaeoklkpcpaaGreatDoor.Jd
open Go.Proofs
open Go.RowKit (Below)
set_option maxRecDepth 100000
set_option maxHeartbeats 8000000
set_option linter.unusedVariables false
set_option linter.unusedSimpArgs false
def rcSame_l0 (a : List Cred) (b : List Cred) : Nat → Nat → Except Bool Nat
  | 0, i_1 => .ok (i_1)
  | n_2 + 1, i_1 => (if ((i_1 : Nat) : Int) < ((a.length : Nat) : Int) then (if ¬ (((a.getD i_1 default).id) = ((b.getD i_1 default).id) ∧ ((a.getD i_1 default).key) = ((b.getD i_1 default).key) ∧ ((a.getD i_1 default).frm) = ((b.getD i_1 default).frm) ∧ ((a.getD i_1 default).to) = ((b.getD i_1 default).to)) then .error false else (rcSame_l0 a b n_2 (i_1 + 1))) else .ok (i_1))
def rcSame (a : List Cred) (b : List Cred) : Bool := (if ((a.length : Nat) : Int) ≠ ((b.length : Nat) : Int) then false else (outc1 (rcSame_l0 a b (a.length + 1) 0) (fun r => r) (fun i_1 => true)))
end Go.Proofs.YtopjaeoklkpcpaaGreatDoor.Jd

namespace Go.Proofs.YtopjaeoklkpcpaaGreatDoor.Jd
open Go.Proofs
open Go.RowKit (Below)
set_option maxRecDepth 100000
set_option maxHeartbeats 8000000
set_option linter.unusedVariables false
set_option linter.unusedSimpArgs false
theorem rcSame_ok (w : World) {a_a : Option Addr} {a_c : Nat} {b_a : Option Addr} {b_c : Nat} {a : List Cred} {b : List Cred} (h_a : Sl w eCred 4 a_a a) (n_a : a.length ≤ 1001) (h_b : Sl w eCred 4 b_a b) (n_b : b.length ≤ 1001) : Val Tryz.prog 63 [(vs a_a a.length a_c), (vs b_a b.length b_c)] w (Value.bool (rcSame a b)) := by
 have hF := Is.refl (rcSame a b)
 refine enter Tryz.func63 Tryz.ntmps63 (h := ?_)
 refine Z216 ?_
 refine Z508 ?_
 refine Z481 ?_
 refine Z508 ?_
 refine Z190 ?_
 refine J_dec rfl (fun hq1 => ?_) (fun hq1 => ?_)
 ·refine J_seq ?_
  refine Z270 ?_
  refine JX_ret Tryz.results63 (Res.tmp rfl Res.nil) (fun w1 hw1 => ?_)
  exact ⟨(by rw [(hF.pos hq1).eq] <;> first | rfl | (simp only [List.length_set] <;> rfl)), hw1.ext_out⟩
 refine Z167 ?_
 refine Z2 ?_
 refine Z1 ?_
 refine J_block ?_
 refine J_loop2 (σ1 := Nat) (σ2 := Nat) (fun n_2 i_1 => []) (fun n_2 i_1 => [(0, (vs a_a a.length a_c)), (1, (vs b_a b.length b_c)), (4, (Value.bool false)), (5, (vi ((i_1 : Nat) : Int)))]) (fun n_2 i_1 => a.length - i_1 < n_2 ∧ Is (rcSame_l0 a b (a.length + 1) 0) (rcSame_l0 a b n_2 i_1) ∧ i_1 ≤ a.length) (fun n_2 i_1 => n_2) (a.length + 1) 0 ?_ se (List.Perm.refl _) ?_
 ·exact ⟨Nat.lt_succ_self _, Is.refl _, (by first | omega | rfl | (simp; done))⟩
 ·rintro (_ | n_2) i_1 ⟨hm4, hF3, hi5⟩
  ·omega
  refine J_seq ?_
  refine Z39 ?_
  refine Z508 ?_
  refine Z12 ?_
  refine J_dec rfl (fun hq2 => ?_) (fun hq2 => ?_)
  rotate_left
  ·refine J_exit ?_
   refine Z272 ?_
   refine JX_ret Tryz.results63 (Res.tmp rfl Res.nil) (fun w1 hw1 => ?_)
   exact ⟨(by rw [((hF.neg hq1).ok1 (hF3.neg hq2)).eq] <;> first | rfl | (simp only [List.length_set] <;> rfl)), hw1.ext_out⟩
  refine Z460 ?_
  refine J_seq ?_
  refine Z146 ?_
  refine JD_q (q_idx (n := a.length) Tryz.runUnderlying50 Tryz.sizeOf62 i_1 (SlJ.of_base h_a) (gD (by first | exact ix)) (by first | rfl | simp)) (k := ?_)
  refine JD_q (q_loadEA Tryz.isAgg62 Tryz.sizeOf62 i_1 (SlJ.of_base h_a) (gD (by first | exact ix))) (k := ?_)
  refine Z62 ?_
  refine JD_q (q_idx (n := b.length) Tryz.runUnderlying50 Tryz.sizeOf62 i_1 (SlJ.of_base h_b) (gD (by first | exact ix)) (by first | rfl | simp)) (k := ?_)
  refine JD_q (q_loadEA Tryz.isAgg62 Tryz.sizeOf62 i_1 (SlJ.of_base h_b) (gD (by first | exact ix))) (k := ?_)
  refine JD_q (q_neS (NE_62 _ _ _ _ _ _ _ _ _ _)) (k := ?_)
  refine JD_nil0 ?_
  refine Z0 ?_
  refine J_dec rfl (fun hq3 => ?_) (fun hq3 => ?_)
  rotate_left
  ·refine J_skip ?_
   refine Z17 ?_
   refine Z454 ?_
   refine Z59 ?_
   exact JX_inv2 n_2 (i_1 + 1) ⟨by omega, ((hF3.pos hq2).neg hq3), (by omega)⟩ (Nat.lt_succ_self _) se (List.Perm.refl _)
  refine Z2 ?_
  refine Z105 ?_
  refine JX_ret Tryz.results63 (Res.tmp rfl Res.nil) (fun w1 hw1 => ?_)
  exact ⟨(by rw [((hF.neg hq1).er1 ((hF3.pos hq2).pos hq3)).eq] <;> first | rfl | (simp only [List.length_set] <;> rfl)), hw1.ext_out⟩

end Go.Proofs.YtopjaeoklkpcpaaGreatDoor.Jd

namespace Go.Proofs.YtopjaeoklkpcpaaGreatDoor.Jd
open Go.Proofs
open Go.RowKit (Below)
set_option maxRecDepth 100000
set_option maxHeartbeats 8000000
set_option linter.unusedVariables false
set_option linter.unusedSimpArgs false
def rySameT (a : Tenant) (b : Tenant) : Bool := (if a.handle.slot = b.handle.slot ∧ a.handle.gen = b.handle.gen then (if a.name = b.name then (if a.state = b.state then (if a.version = b.version then (if a.deadline = b.deadline then (if (rlSame a.rules b.rules) = true then (rcSame a.creds b.creds) else false) else false) else false) else false) else false) else false)
end Go.Proofs.YtopjaeoklkpcpaaGreatDoor.Jd

namespace Go.Proofs.YtopjaeoklkpcpaaGreatDoor.Jd
open Go.Proofs
open Go.RowKit (Below)
set_option maxRecDepth 100000
set_option maxHeartbeats 8000000
set_option linter.unusedVariables false
set_option linter.unusedSimpArgs false
def lRegistryOthers (r : Registry) (role : Int) (c : Command) (now : Int) (name : Str) : Bool := (if ((gApply (gCut r) role (gCutC c) now).2.err) = 150 then gShown else (if ((gApply (gCut r) role (gCutC c) now).2.err) ≠ 0 then (if gShown = true then (if (gSame (gCut r) (Registry.mk ((gApply (gCut r) role (gCutC c) now).1.slots) ((gApply (gCut r) role (gCutC c) now).1.l) (((gApply (gCut r) role (gCutC c) now).1.seq) - 1))) = true then (((gFind (gCut r) (name.take ((if 41 < ((name.length : Nat) : Int) then 41 else ((name.length : Nat) : Int)).toNat))).2) == ((gFind ((gApply (gCut r) role (gCutC c) now).1) (name.take ((if 41 < ((name.length : Nat) : Int) then 41 else ((name.length : Nat) : Int)).toNat))).2)) else false) else false) else (if gShown = true then (if (name.take ((if 41 < ((name.length : Nat) : Int) then 41 else ((name.length : Nat) : Int)).toNat)) = ((gCutC c).name) then true else (if (((gFind (gCut r) (name.take ((if 41 < ((name.length : Nat) : Int) then 41 else ((name.length : Nat) : Int)).toNat))).2) == ((gFind ((gApply (gCut r) role (gCutC c) now).1) (name.take ((if 41 < ((name.length : Nat) : Int) then 41 else ((name.length : Nat) : Int)).toNat))).2)) = true then (rySameT ((gFind (gCut r) (name.take ((if 41 < ((name.length : Nat) : Int) then 41 else ((name.length : Nat) : Int)).toNat))).1) ((gFind ((gApply (gCut r) role (gCutC c) now).1) (name.take ((if 41 < ((name.length : Nat) : Int) then 41 else ((name.length : Nat) : Int)).toNat))).1)) else false)) else false)))
end Go.Proofs.YtopjaeoklkpcpaaGreatDoor.Jd

namespace Go.Proofs.YtopjaeoklkpcpaaGreatDoor.Jd
open Go.Proofs
open Go.RowKit (Below)
set_option maxRecDepth 100000
set_option maxHeartbeats 8000000
set_option linter.unusedVariables false
set_option linter.unusedSimpArgs false
theorem rySameT_ok (w : World) {a_rules_a : Option Addr} {a_rules_c : Nat} {a_creds_a : Option Addr} {a_creds_c : Nat} {b_rules_a : Option Addr} {b_rules_c : Nat} {b_creds_a : Option Addr} {b_creds_c : Nat} {a : Tenant} {b : Tenant} (h_a_rules : Sl w eRule 5 a_rules_a a.rules) (n_a_rules : a.rules.length ≤ 1000) (h_a_creds : Sl w eCred 4 a_creds_a a.creds) (n_a_creds : a.creds.length ≤ 1000) (h_b_rules : Sl w eRule 5 b_rules_a b.rules) (n_b_rules : b.rules.length ≤ 1000) (h_b_creds : Sl w eCred 4 b_creds_a b.creds) (n_b_creds : b.creds.length ≤ 1000) : Val Tryz.prog 27 [(Value.agg [(vi a.handle.slot), (vi a.handle.gen), (vt a.name), (vi a.state), (vi a.version), (vs a_rules_a a.rules.length a_rules_c), (vs a_creds_a a.creds.length a_creds_c), (vi a.deadline)].toArray), (Value.agg [(vi b.handle.slot), (vi b.handle.gen), (vt b.name), (vi b.state), (vi b.version), (vs b_rules_a b.rules.length b_rules_c), (vs b_creds_a b.creds.length b_creds_c), (vi b.deadline)].toArray)] w (Value.bool (rySameT a b)) := by
 have hF := Is.refl (rySameT a b)
 refine enter Tryz.func27 Tryz.ntmps27 (h := ?_)
 refine Z2 ?_
 refine JL_a noMk (a_box (l := [_, _, _, _, _, _, _, _])) (k := fun r1 hr1 => ?_)
 refine JL_a noMk (a_box (l := [_, _, _, _, _, _, _, _])) (k := fun r2 hr2 => ?_)
 refine Z91 ?_
 refine Z336 ?_
 refine Z336 ?_
 refine JL_q (q_eqS (EQ_42 _ _ _ _ _ _)) (k := ?_)
 refine Z481 ?_
 refine JL_dec 10 rfl (fun hq1 => ?_) (fun hq1 => ?_)
 rotate_left
 ·refine JL_skips 5 rfl ?_
  refine Z76 ?_
  refine Z76 ?_
  refine Z76 ?_
  refine Z407 ?_
  refine JX_ret Tryz.results27 (Res.tmp rfl Res.nil) (fun w1 hw1 => ?_)
  exact ⟨(by rw [(hF.neg hq1).eq] <;> first | rfl | (simp only [List.length_set] <;> rfl)), hw1.ext_out⟩
 refine Z375 ?_
 refine Z375 ?_
 refine JL_qg q_eqT (k := ?_)
 refine Z18 ?_
 refine JL_dec 17 rfl (fun hq2 => ?_) (fun hq2 => ?_)
 rotate_left
 ·refine JL_skips 5 rfl ?_
  refine Z76 ?_
  refine Z76 ?_
  refine Z407 ?_
  refine JX_ret Tryz.results27 (Res.tmp rfl Res.nil) (fun w1 hw1 => ?_)
  exact ⟨(by rw [((hF.pos hq1).neg hq2).eq] <;> first | rfl | (simp only [List.length_set] <;> rfl)), hw1.ext_out⟩
 refine JL_qg (q_fld FO_52_2) (k := ?_)
 refine Z500 ?_
 refine Z309 ?_
 refine Z18 ?_
 refine JL_dec 24 rfl (fun hq3 => ?_) (fun hq3 => ?_)
 rotate_left
 ·refine JL_skips 5 rfl ?_
  refine Z76 ?_
  refine Z407 ?_
  refine JX_ret Tryz.results27 (Res.tmp rfl Res.nil) (fun w1 hw1 => ?_)
  exact ⟨(by rw [(((hF.pos hq1).pos hq2).neg hq3).eq] <;> first | rfl | (simp only [List.length_set] <;> rfl)), hw1.ext_out⟩
 refine Z373 ?_
 refine JL_qg (q_fld FO_52_3) (k := ?_)
 refine Z80 ?_
 refine Z18 ?_
 refine JL_dec 31 rfl (fun hq4 => ?_) (fun hq4 => ?_)
 rotate_left
 ·refine JL_skips 5 rfl ?_
  refine Z407 ?_
  refine JX_ret Tryz.results27 (Res.tmp rfl Res.nil) (fun w1 hw1 => ?_)
  exact ⟨(by rw [((((hF.pos hq1).pos hq2).pos hq3).neg hq4).eq] <;> first | rfl | (simp only [List.length_set] <;> rfl)), hw1.ext_out⟩
 refine Z260 ?_
 refine Z445 ?_
 refine Z18 ?_
 refine JL_dec 38 rfl (fun hq5 => ?_) (fun hq5 => ?_)
 rotate_left
 ·refine JL_skips 5 rfl ?_
  refine Z203 ?_
  refine JX_ret Tryz.results27 (Res.tmp rfl Res.nil) (fun w1 hw1 => ?_)
  exact ⟨(by rw [(((((hF.pos hq1).pos hq2).pos hq3).pos hq4).neg hq5).eq] <;> first | rfl | (simp only [List.length_set] <;> rfl)), hw1.ext_out⟩
 refine Z312 ?_
 refine Z312 ?_
 refine JL_vg (c_callA Tryz.call25) (fun w1 hw1 => rlSame_ok w1 (a := a.rules) (b := b.rules) (h_a := (SlJ.of_base h_a_rules) w1 hw1) (n_a := by first | exact lb | decide) (h_b := (SlJ.of_base h_b_rules) w1 hw1) (n_b := by first | exact lb | decide)) (k := ?_)
 refine Z18 ?_
 refine JL_bool 45 rfl (fun hq6 => ?_) (fun hq6 => ?_)
 rotate_left
 ·refine JL_skips 5 rfl ?_
  refine Z26 ?_
  refine JX_ret Tryz.results27 (Res.tmp rfl Res.nil) (fun w1 hw1 => ?_)
  exact ⟨(by rw [((((((hF.pos hq1).pos hq2).pos hq3).pos hq4).pos hq5).f hq6).eq] <;> first | rfl | (simp only [List.length_set] <;> rfl)), hw1.ext_out⟩
 refine Z313 ?_
 refine Z313 ?_
 refine JL_vg (c_callA Tryz.call63) (fun w1 hw1 => rcSame_ok w1 (a := a.creds) (b := b.creds) (h_a := (SlJ.of_base h_a_creds) w1 hw1) (n_a := by first | exact lb | decide) (h_b := (SlJ.of_base h_b_creds) w1 hw1) (n_b := by first | exact lb | decide)) (k := ?_)
 refine Z79 ?_
 refine JX_ret Tryz.results27 (Res.tmp rfl Res.nil) (fun w1 hw1 => ?_)
 exact ⟨(by rw [((((((hF.pos hq1).pos hq2).pos hq3).pos hq4).pos hq5).t hq6).eq] <;> first | rfl | (simp only [List.length_set] <;> rfl)), hw1.ext_out⟩

end Go.Proofs.YtopjaeoklkpcpaaGreatDoor.Jd

namespace Go.Proofs.YtopjaeoklkpcpaaGreatDoor.Jd
set_option linter.unusedVariables false
set_option linter.unusedSimpArgs false
theorem find_ext {r s : Registry} (hr : (r.l.map Tenant.name).Nodup) (hs : (s.l.map Tenant.name).Nodup) {name : Str} (h : ∀ t : Tenant, t.name = name → (t ∈ r.l ↔ t ∈ s.l)) : gFind r name = gFind s name := by
  cases h1 : (gFind r name).2 with
  | true =>
    obtain ⟨h2, h3⟩ := find_true h1
    have e1 : gFind r name = ((gFind r name).1, true) := by rw [← h1]
    have h4 := (h _ h3).1 h2
    have h5 := find_some hs h4
    rw [h3] at h5
    rw [h5, ← e1]
  | false =>
    have h2 := find_false h1
    rw [find_none h2, find_none fun t ht e => h2 t ((h t e).2 ht) e]
theorem mem_set_other {l : List Tenant} {i : Nat} (hi : i < l.length) {u t : Tenant} (hn : u.name = (l.getD i default).name) (h : t.name ≠ u.name) : t ∈ l.set i u ↔ t ∈ l := by
  constructor
  · intro ht
    exact (List.mem_or_eq_of_mem_set ht).resolve_right fun e => h (by rw [e])
  · intro ht
    obtain ⟨k, hk, e⟩ := mem_getD' ht
    have hne : i ≠ k := fun e2 => h (by rw [hn, e2, e])
    refine List.mem_iff_getElem.2 ⟨k, by simpa using hk, ?_⟩
    rw [List.getElem_set_ne hne]
    simpa [List.getD, hk] using e
end Go.Proofs.YtopjaeoklkpcpaaGreatDoor.Jd

namespace Go.Proofs.YtopjaeoklkpcpaaGreatDoor.Jd
set_option maxRecDepth 100000
set_option linter.unusedVariables false
set_option linter.unusedSimpArgs false
theorem rcSame_iff (a b : List Cred) : rcSame a b = true ↔ a = b := by
  unfold rcSame
  by_cases hl : a.length = b.length
  · rw [if_neg (by omega)]
    rcases SlT.cmp_spec (a) (b) (rcSame_l0 a b) (fun n k h => by simp only [rcSame_l0]; rw [if_neg (by omega)]) (fun n k h e => by simp only [rcSame_l0]; rw [if_pos (by omega), if_neg (by rw [e]; simp)]) (fun n k h e => by simp only [rcSame_l0]; rw [if_pos (by omega), if_pos (fun c => e (by generalize a.getD k default = x at c ⊢; generalize b.getD k default = y at c ⊢; cases x; cases y; simp only at c; simp [c]))]) hl (a.length + 1) 0 (by omega) (by omega) with ⟨e, g⟩ | ⟨e, g⟩
    · simp only [e, outc1, true_iff]; exact SlT.getD_ext hl fun j hj => g j (by omega) hj
    · simp only [e, outc1, Bool.false_eq_true, false_iff]; exact g
  · rw [if_pos (by omega)]
    simp only [Bool.false_eq_true, false_iff]; exact fun e => hl (by rw [e])
theorem rySameT_iff (a b : Tenant) : rySameT a b = true ↔ a = b := by
  have e : rySameT a b = true ↔ (a.handle.slot = b.handle.slot ∧ a.handle.gen = b.handle.gen) ∧ a.name = b.name ∧ a.state = b.state ∧ a.version = b.version ∧ a.deadline = b.deadline ∧ a.rules = b.rules ∧ a.creds = b.creds := by
    unfold rySameT
    rw [← rlSame_iff, ← rcSame_iff]
    repeat' split
    all_goals simp_all
  rw [e]
  constructor
  · rcases a with ⟨⟨a1, a2⟩, a3, a4, a5, a6, a7, a8⟩; rcases b with ⟨⟨b1, b2⟩, b3, b4, b5, b6, b7, b8⟩
    rintro ⟨⟨h1, h2⟩, h3, h4, h5, h6, h7, h8⟩
    simp only at h1 h2 h3 h4 h5 h6 h7 h8
    rw [h1, h2, h3, h4, h5, h6, h7, h8]
  · rintro rfl; simp
end Go.Proofs.YtopjaeoklkpcpaaGreatDoor.Jd

namespace Go.Proofs.YtopjaeoklkpcpaaGreatDoor.Jd
set_option maxRecDepth 100000
set_option linter.unusedVariables false
set_option linter.unusedSimpArgs false
theorem lRegistryOthers_true (r : Registry) (role : Int) (c : Command) (now : Int) (name : Str) : lRegistryOthers r role c now name = true := by
  unfold lRegistryOthers
  simp only [gShown_true, if_true]
  generalize name.take (if 41 < ((name.length : Nat) : Int) then 41 else ((name.length : Nat) : Int)).toNat = nm
  have h := apply_out (gCut r) role (gCutC c) now
  generalize gApply (gCut r) role (gCutC c) now = x at h ⊢
  generalize gCut r = s at h ⊢
  generalize gCutC c = d at h ⊢
  by_cases he : x.2.err = 150
  · rw [if_pos he]
  rw [if_neg he]
  by_cases h0 : x.2.err = 0
  rotate_left
  · rw [if_pos h0]
    obtain ⟨hf, hx⟩ := h.err he h0
    have e1 : gFind x.1 nm = gFind s nm := by rw [hx]; unfold gFind; rw [show (failR s x.2.err).1 = xR s from rfl, gPlace_xR]
    have e2 : Registry.mk x.1.slots x.1.l (x.1.seq - 1) = s := by rw [hx]; show Registry.mk s.slots s.l (s.seq + 1 - 1) = s; rw [show s.seq + 1 - 1 = s.seq by omega]
    rw [e2, e1, (gSame_iff s s).2 rfl]; simp
  rw [if_neg (by simpa using h0)]
  by_cases hn : nm = d.name
  · rw [if_pos hn]
  rw [if_neg hn]
  obtain ⟨hf, hr, _, _⟩ := h.right he
  have key : gFind x.1 nm = gFind s nm := by
    refine (find_ext hf.right.names hr.names fun t ht => ?_).symm
    cases h with
    | none h => exact absurd rfl he
    | fail h e h0 h1 => exact Iff.rfl
    | new h hm hv2 hgn hff h1 h2 =>
      have hp := (new_ok h hgn hff h1 h2).1
      show _ ↔ t ∈ putX s.l (newT s d now)
      rw [hp.mem_iff, List.mem_cons]
      exact ⟨.inr, fun h3 => h3.resolve_left fun e => hn (by rw [← ht, e]; rfl)⟩
    | list h hm hv2 => exact Iff.rfl
    | del h hm hv2 i hi hin hw =>
      show _ ↔ t ∈ delL s.l i (i + 1)
      rw [mem_del (List.Pairwise.of_map Tenant.name (fun a b hab e => hab (by rw [e])) h.right.names) hi]
      exact ⟨fun h3 => ⟨h3, fun e => hn (by rw [← ht, e, hin])⟩, fun h3 => h3.1⟩
    | look h hm hv2 i hi hin hw => exact Iff.rfl
    | put h hm hv2 i hi hin hw hc hs =>
      have hk := chg_name (s.l.getD i default) d now
      exact (mem_set_other hi hk.1 (by rw [hk.1, hin, ht]; exact hn)).symm
  rw [key, (rySameT_iff _ _).2 rfl]; simp
end Go.Proofs.YtopjaeoklkpcpaaGreatDoor.Jd

namespace Go.Proofs.YtopjaeoklkpcpaaGreatDoor.Jd
open Go.Proofs
open Go.RowKit (Below)
set_option maxRecDepth 100000
set_option maxHeartbeats 8000000
set_option linter.unusedVariables false
set_option linter.unusedSimpArgs false
theorem lRegistryOthers_ok (w : World) {r_slots_gens_a : Option Addr} {r_slots_gens_c : Nat} {r_slots_used_a : Option Addr} {r_slots_used_c : Nat} {r_slots_free_a : Option Addr} {r_slots_free_c : Nat} {r_l_a : Option Addr} {r_l_c : Nat} {r_l_t : List TA} {ea0 : Addr} {ea1 : Addr} {ea2 : Addr} {ea3 : Addr} {r : Registry} {role : Int} {c : Command} {now : Int} {name : Str} (h_r_slots_gens : Sl w eI 1 r_slots_gens_a r.slots.gens) (k_r_slots_gens : r.slots.gens.length ≤ r_slots_gens_c) (h_r_slots_used : Sl w eB 1 r_slots_used_a r.slots.used) (k_r_slots_used : r.slots.used.length ≤ r_slots_used_c) (h_r_slots_free : Sl w eI 1 r_slots_free_a r.slots.free) (k_r_slots_free : r.slots.free.length ≤ r_slots_free_c) (h_r_l : SlN w eTenant 8 DT r_l_a r.l r_l_t) (k_r_l : r.l.length ≤ r_l_c) (i_c_at_ : -9223372036854775808 ≤ c.at_ ∧ c.at_ ≤ 9223372036854775807) (hG : Gl w) (hE : Er w ea0 ea1 ea2 ea3) : Val Tryz.prog 9 [(Value.agg [(vs r_slots_gens_a r.slots.gens.length r_slots_gens_c), (vs r_slots_used_a r.slots.used.length r_slots_used_c), (vs r_slots_free_a r.slots.free.length r_slots_free_c), (vs r_l_a r.l.length r_l_c), (vi r.seq)].toArray), (vi role), (Value.agg [(vi c.verb), (vt c.name), (vi c.want), (vi c.at_), (Value.bool c.rule.allow), (vi c.rule.pfx.addr), (vi c.rule.pfx.bits), (vi c.rule.prt.lo), (vi c.rule.prt.hi), (vt c.key), (vi c.n), (vi c.m)].toArray), (vi now), (vt name)] w (Value.bool (lRegistryOthers r role c now name)) := by
 have hF := Is.refl (lRegistryOthers r role c now name)
 refine enter Tryz.func9 Tryz.ntmps9 (h := ?_)
 refine Z2 ?_
 refine JL_a noMk (a_box (l := [_, _, _, _, _])) (k := fun r1 hr1 => ?_)
 refine JL_a noMk (a_box (l := [_, _, _, _, _, _, _, _, _, _, _, _])) (k := fun r2 hr2 => ?_)
 refine Z96 ?_
 refine Z1 ?_
 refine Z24 ?_
 rintro w1_1 e1_1 w2_1 hw1_1 ⟨a1_1, c1_1, t1_1, B_1, he_1, hf_1, hs1_1, hl1_1⟩
 refine ⟨_, _, he_1, hw1_1.fresh hf_1, ?_⟩
 have hcb_1 := gCut_bd r
 have hsm_1 := gCut_small r
 refine Z133 ?_
 refine Z225 ?_
 refine Z109 ?_
 refine Z0 ?_
 refine Z39 ?_
 refine Z278 ?_
 have hsb1 : (name.take ((if 41 < ((name.length : Nat) : Int) then 41 else ((name.length : Nat) : Int)).toNat)).length = ((if 41 < ((name.length : Nat) : Int) then 41 else ((name.length : Nat) : Int)).toNat) := by first | omega | (simp only [List.length_take, List.length_drop, List.length_cons, List.length_nil] <;> omega)
 refine Z1 ?_
 refine Z248 ?_
 refine JL_q (q_loadA Tryz.isAgg36 Tryz.sizeOf36) (k := ?_)
 refine Z102 ?_
 rintro w1_2 e1_2 w2_2 hw1_2 ⟨a1_2, c1_2, a2_2, c2_2, a3_2, c3_2, a4_2, c4_2, t4_2, B_2, he_2, hf_2, hs1_2, hs2_2, hs3_2, hs4_2, hl1_2, hl2_2, hl3_2, hl4_2⟩
 refine ⟨_, _, he_2, hw1_2.fresh hf_2, ?_⟩
 have hap_33877 := gApply_small role (gCutC c) now (by first | assumption | exact Small.nil : Small ((gCut r).l))
 have hab_33877 := gApply_bd (gCut r) role (gCutC c) now
 try dsimp only at hab_33877
 refine Z37 ?_
 refine JL_a noMk (a_alloc (l := [_, _, _, _, _]) Tryz.zeroValue28) (k := fun r3 hr3 => ?_)
 refine JL_a noMk (a_alloc (l := [_, _, _, _, _, _]) Tryz.zeroValue44) (k := fun r4 hr4 => ?_)
 refine Z261 ?_
 refine Z2 ?_
 refine Z116 ?_
 refine Z281 ?_
 refine J_dec rfl (fun hq1 => ?_) (fun hq1 => ?_)
 ·refine J_seq ?_
  refine Z376 ?_
  refine JX_ret Tryz.results9 (Res.tmp rfl Res.nil) (fun w1 hw1 => ?_)
  exact ⟨(by rw [(hF.pos hq1).eq] <;> first | rfl | (simp only [List.length_set] <;> rfl)), hw1.ext_out⟩
 refine Z14 ?_
 refine Z248 ?_
 refine JL_p (c_callA Tryz.call20) (fun w1 hw1 => gFind_ok w1 (r := (gCut r)) (name := (name.take ((if 41 < ((name.length : Nat) : Int) then 41 else ((name.length : Nat) : Int)).toNat))) (h_r_slots_gens := (SlJ.take (SlJ.of_base h_r_slots_gens) _) w1 hw1) (n_r_slots_gens := by first | omega | (simp; done) | exact Nat.le_trans (by assumption) (by decide)) (h_r_slots_used := (SlJ.take (SlJ.of_base h_r_slots_used) _) w1 hw1) (n_r_slots_used := by first | omega | (simp; done) | exact Nat.le_trans (by assumption) (by decide)) (h_r_slots_free := (SlJ.take (SlJ.of_base h_r_slots_free) _) w1 hw1) (n_r_slots_free := by first | omega | (simp; done) | exact Nat.le_trans (by assumption) (by decide)) (h_r_l := (SlNB.j hs1_1.1 sh).2 w1 hw1) (n_r_l := by first | omega | (simp; done) | exact Nat.le_trans (by assumption) (by decide)) (k_r_l := hs1_1.2) (hsm := by first | assumption | exact Small.nil)) (k := ?_)
 rintro w1_3 e1_3 w2_3 hw1_3 ⟨a1_3, c1_3, a2_3, c2_3, B1_3, B2_3, he_3, hf_3, ho1_3, ho2_3, hl1_3, hl2_3⟩
 refine ⟨_, _, he_3, (hw1_3.fresh hf_3).perm (eqp (nA rfl)), ?_⟩
 have hfv_78246 := gFind_ver (gCut r) (name.take ((if 41 < ((name.length : Nat) : Int) then 41 else ((name.length : Nat) : Int)).toNat))
 refine Z37 ?_
 refine JL_a noMk (a_alloc (l := [_, _, _, _, _, _, _, _]) Tryz.zeroValue52) (k := fun r5 hr5 => ?_)
 refine Z346 ?_
 refine Z248 ?_
 refine JL_p (c_callA Tryz.call20) (fun w1 hw1 => gFind_ok w1 (r := ((gApply (gCut r) role (gCutC c) now).1)) (name := (name.take ((if 41 < ((name.length : Nat) : Int) then 41 else ((name.length : Nat) : Int)).toNat))) (h_r_slots_gens := (SlB.slj hs1_2) w1 hw1) (n_r_slots_gens := by first | omega | (simp; done) | exact Nat.le_trans (by assumption) (by decide)) (h_r_slots_used := (SlB.slj hs2_2) w1 hw1) (n_r_slots_used := by first | omega | (simp; done) | exact Nat.le_trans (by assumption) (by decide)) (h_r_slots_free := (SlB.slj hs3_2) w1 hw1) (n_r_slots_free := by first | omega | (simp; done) | exact Nat.le_trans (by assumption) (by decide)) (h_r_l := (SlNB.j hs4_2.1 sh).2 w1 hw1) (n_r_l := by first | omega | (simp; done) | exact Nat.le_trans (by assumption) (by decide)) (k_r_l := hs4_2.2) (hsm := by first | assumption | exact Small.nil)) (k := ?_)
 rintro w1_4 e1_4 w2_4 hw1_4 ⟨a1_4, c1_4, a2_4, c2_4, B1_4, B2_4, he_4, hf_4, ho1_4, ho2_4, hl1_4, hl2_4⟩
 refine ⟨_, _, he_4, (hw1_4.fresh hf_4).perm (eqp (nA rfl)), ?_⟩
 have hfv_17048 := gFind_ver ((gApply (gCut r) role (gCutC c) now).1) (name.take ((if 41 < ((name.length : Nat) : Int) then 41 else ((name.length : Nat) : Int)).toNat))
 refine Z37 ?_
 refine JL_a noMk (a_alloc (l := [_, _, _, _, _, _, _, _]) Tryz.zeroValue52) (k := fun r6 hr6 => ?_)
 refine Z122 ?_
 refine Z2 ?_
 refine Z116 ?_
 refine Z190 ?_
 refine J_dec rfl (fun hq2 => ?_) (fun hq2 => ?_)
 ·refine J_seq ?_
  refine J_subL _ (sk (sa (sa (sk (sa (sa (sd (sk (sa (sa (sk (sk sz)))))))))))) ?_
  refine Z486 ?_
  refine Z94 ?_
  refine Z495 ?_
  refine Z201 ?_
  refine Z0 ?_
  refine Z39 ?_
  refine JL_bool 60 rfl (fun hq3 => ?_) (fun hq3 => ?_)
  rotate_left
  ·refine JL_skips 3 rfl ?_
   refine Z58 ?_
   refine Z26 ?_
   refine Z510 ?_
   refine JX_ret Tryz.results9 (Res.tmp rfl Res.nil) (fun w1 hw1 => ?_)
   exact ⟨(by rw [(((hF.neg hq1).pos hq2).f hq3).eq] <;> first | rfl | (simp only [List.length_set] <;> rfl)), hw1.ext_out⟩
  refine Z282 ?_
  refine JL_vg (c_callA Tryz.call26) (fun w1 hw1 => gSame_ok w1 (a := (gCut r)) (b := (Registry.mk ((gApply (gCut r) role (gCutC c) now).1.slots) ((gApply (gCut r) role (gCutC c) now).1.l) (((gApply (gCut r) role (gCutC c) now).1.seq) - 1))) (h_a_slots_gens := (SlJ.take (SlJ.of_base h_r_slots_gens) _) w1 hw1) (n_a_slots_gens := by first | omega | (simp; done) | exact Nat.le_trans (by assumption) (by decide)) (h_a_slots_used := (SlJ.take (SlJ.of_base h_r_slots_used) _) w1 hw1) (n_a_slots_used := by first | omega | (simp; done) | exact Nat.le_trans (by assumption) (by decide)) (h_a_slots_free := (SlJ.take (SlJ.of_base h_r_slots_free) _) w1 hw1) (n_a_slots_free := by first | omega | (simp; done) | exact Nat.le_trans (by assumption) (by decide)) (h_a_l := (SlNB.j hs1_1.1 sh).2 w1 hw1) (n_a_l := by first | omega | (simp; done) | exact Nat.le_trans (by assumption) (by decide)) (k_a_l := hs1_1.2) (h_b_slots_gens := (SlB.slj hs1_2) w1 hw1) (n_b_slots_gens := by first | omega | (simp; done) | exact Nat.le_trans (by assumption) (by decide)) (h_b_slots_used := (SlB.slj hs2_2) w1 hw1) (n_b_slots_used := by first | omega | (simp; done) | exact Nat.le_trans (by assumption) (by decide)) (h_b_slots_free := (SlB.slj hs3_2) w1 hw1) (n_b_slots_free := by first | omega | (simp; done) | exact Nat.le_trans (by assumption) (by decide)) (h_b_l := (SlNB.j hs4_2.1 sh).2 w1 hw1) (n_b_l := by first | omega | (simp; done) | exact Nat.le_trans (by assumption) (by decide)) (k_b_l := hs4_2.2) (hsm := by first | assumption | exact Small.nil) (hsm2 := by first | assumption | exact Small.nil)) (k := ?_)
  refine Z18 ?_
  refine JL_bool 65 rfl (fun hq4 => ?_) (fun hq4 => ?_)
  rotate_left
  ·refine JL_skips 3 rfl ?_
   refine Z26 ?_
   refine Z510 ?_
   refine JX_ret Tryz.results9 (Res.tmp rfl Res.nil) (fun w1 hw1 => ?_)
   exact ⟨(by rw [((((hF.neg hq1).pos hq2).t hq3).f hq4).eq] <;> first | rfl | (simp only [List.length_set] <;> rfl)), hw1.ext_out⟩
  refine Z141 ?_
  refine JL_qg (q_eqlB Tryz.runUnderlying4) (k := ?_)
  refine Z360 ?_
  refine JX_ret Tryz.results9 (Res.tmp rfl Res.nil) (fun w1 hw1 => ?_)
  exact ⟨(by rw [((((hF.neg hq1).pos hq2).t hq3).t hq4).eq] <;> first | rfl | (simp only [List.length_set] <;> rfl)), hw1.ext_out⟩
 refine Z167 ?_
 refine J_subL _ (sk (sa (sa (sk (sa (sa (sd (sd (sx (sx (sk (sd sz)))))))))))) ?_
 refine Z174 ?_
 refine JL_bool 71 rfl (fun hq5 => ?_) (fun hq5 => ?_)
 rotate_left
 ·refine JL_skips 14 rfl ?_
  refine Z26 ?_
  refine JX_ret Tryz.results9 (Res.tmp rfl Res.nil) (fun w1 hw1 => ?_)
  exact ⟨(by rw [(((hF.neg hq1).neg hq2).f hq5).eq] <;> first | rfl | (simp only [List.length_set] <;> rfl)), hw1.ext_out⟩
 refine Z489 ?_
 refine JL_qg (q_fld FO_36_1) (k := ?_)
 refine JL_qg (q_load Tryz.isAgg9) (k := ?_)
 refine JL_qg q_eqT (k := ?_)
 refine Z489 ?_
 refine JL_dec 76 rfl (fun hq6 => ?_) (fun hq6 => ?_)
 ·refine JL_skips 8 rfl ?_
  refine Z514 ?_
  refine Z79 ?_
  refine JX_ret Tryz.results9 (Res.tmp rfl Res.nil) (fun w1 hw1 => ?_)
  exact ⟨(by rw [((((hF.neg hq1).neg hq2).t hq5).pos hq6).eq] <;> first | rfl | (simp only [List.length_set] <;> rfl)), hw1.ext_out⟩
 refine Z141 ?_
 refine JL_qg (q_eqlB Tryz.runUnderlying4) (k := ?_)
 refine Z489 ?_
 refine JL_bool 80 rfl (fun hq7 => ?_) (fun hq7 => ?_)
 rotate_left
 ·refine JL_skips 3 rfl ?_
  refine Z515 ?_
  refine Z515 ?_
  refine Z79 ?_
  refine JX_ret Tryz.results9 (Res.tmp rfl Res.nil) (fun w1 hw1 => ?_)
  exact ⟨(by rw [(((((hF.neg hq1).neg hq2).t hq5).neg hq6).f hq7).eq] <;> first | rfl | (simp only [List.length_set] <;> rfl)), hw1.ext_out⟩
 refine JL_qg (q_loadA Tryz.isAgg52 Tryz.sizeOf52) (k := ?_)
 refine JL_qg (q_loadA Tryz.isAgg52 Tryz.sizeOf52) (k := ?_)
 refine JL_vg (c_callA Tryz.call27) (fun w1 hw1 => rySameT_ok w1 (a := ((gFind (gCut r) (name.take ((if 41 < ((name.length : Nat) : Int) then 41 else ((name.length : Nat) : Int)).toNat))).1)) (b := ((gFind ((gApply (gCut r) role (gCutC c) now).1) (name.take ((if 41 < ((name.length : Nat) : Int) then 41 else ((name.length : Nat) : Int)).toNat))).1)) (h_a_rules := (ho1_3.slj eRule_ok) w1 hw1) (n_a_rules := by first | omega | (simp; done) | exact Nat.le_trans (by assumption) (by decide)) (h_a_creds := (ho2_3.slj eCred_ok) w1 hw1) (n_a_creds := by first | omega | (simp; done) | exact Nat.le_trans (by assumption) (by decide)) (h_b_rules := (ho1_4.slj eRule_ok) w1 hw1) (n_b_rules := by first | omega | (simp; done) | exact Nat.le_trans (by assumption) (by decide)) (h_b_creds := (ho2_4.slj eCred_ok) w1 hw1) (n_b_creds := by first | omega | (simp; done) | exact Nat.le_trans (by assumption) (by decide))) (k := ?_)
 refine Z514 ?_
 refine Z515 ?_
 refine Z79 ?_
 refine JX_ret Tryz.results9 (Res.tmp rfl Res.nil) (fun w1 hw1 => ?_)
 exact ⟨(by rw [(((((hF.neg hq1).neg hq2).t hq5).neg hq6).t hq7).eq] <;> first | rfl | (simp only [List.length_set] <;> rfl)), hw1.ext_out⟩

end Go.Proofs.YtopjaeoklkpcpaaGreatDoor.Jd

