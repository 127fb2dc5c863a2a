/- Part of the proofs of this seat: walks and plain facts. No condition. -/
import Derived.Test.YtopjaeoklkpcpaaGreatDoorP0
import Derived.Test.YtopjaeoklkpcpaaGreatDoorProg
import Derived.Test.YtopjaeoklkpcpaaGreatDoorP3
import Derived.Test.YtopjaeoklkpcpaaGreatDoorP1
import Derived.Test.YtopjaeoklkpcpaaGreatDoorP2
namespace Go.Proofs.YtopjaeoklkpcpaaGreatDoor.Jd
open Go.Proofs
open Go.RowKit (Below)
set_option maxRecDepth 100000
set_option maxHeartbeats 8000000
set_option linter.unusedVariables false
set_option linter.unusedSimpArgs false
theorem FO_120_0 : FieldOff Tryz.prog 120 0 0 := fun r k w => by simp [Instr.fieldAt, Instr.sureAddr, fieldPlace, addr_add]
theorem gTold0_ok (w : World) (hG : Gl w) : Val Tryz.prog 42 [Value.nilIface] w (vi 0) := by
 have hF := Is.refl 0
 refine enter Tryz.func42 Tryz.ntmps42 (h := ?_)
 refine Z195 ?_
 refine JL_a noMk (a_alloc (l := [_]) Tryz.zeroValue120) (k := fun r1 hr1 => ?_)
 refine Z72 ?_
 refine Z4 ?_
 refine JL_q (q_mkI Tryz.underlying122) (k := ?_)
 refine JL_v (args := [Value.nilIface, (Value.iface 122 (Value.pointer (some ⟨r1, 0, none⟩)))]) (c_callA Tryz.call76) (fun w1 hw1 => at_nil_v w1) (k := ?_)
 refine Z49 ?_
 refine Z14 ?_
 refine Z178 ?_
 refine JX_ret Tryz.results42 (Res.tmp rfl Res.nil) (fun w1 hw1 => ?_)
 exact ⟨(by rfl), hw1.ext_out⟩

theorem gTold1_ok (w : World) {e_ : Int} (hG : Gl w) : Val Tryz.prog 42 [(Value.iface 120 (Value.agg [(vi e_)].toArray))] w (vi e_) := by
 have hF := Is.refl e_
 refine enter Tryz.func42 Tryz.ntmps42 (h := ?_)
 refine Z195 ?_
 refine JL_a noMk (a_alloc (l := [_]) Tryz.zeroValue120) (k := fun r1 hr1 => ?_)
 refine Z72 ?_
 refine Z4 ?_
 refine JL_q (q_mkI Tryz.underlying122) (k := ?_)
 refine JL_p (args := [(Value.iface 120 (Value.agg [(vi e_)].toArray)), (Value.iface 122 (Value.pointer (some ⟨r1, 0, none⟩)))]) (c_callA Tryz.call76) (fun w1 hw1 => at_hit_t w1 (hG.ext hw1.ext_out).ety (hw1.own _ me)) (k := ?_)
 rintro w1_1 e1_1 w2_1 hw1_1 ⟨he_1, hT_1⟩
 refine ⟨_, _, he_1, (hw1_1.perm q0).tr hT_1, ?_⟩
 refine Z200 ?_
 refine JL_q (q_fld FO_120_0) (k := ?_)
 refine JL_q (q_load Tryz.isAgg40) (k := ?_)
 refine Z41 ?_
 refine JX_ret Tryz.results42 (Res.tmp rfl Res.nil) (fun w1 hw1 => ?_)
 exact ⟨(by rfl), hw1.ext_out⟩

end Go.Proofs.YtopjaeoklkpcpaaGreatDoor.Jd

namespace Go.Proofs.YtopjaeoklkpcpaaGreatDoor.Jd
open Go.Proofs
open Go.RowKit (Below)
set_option maxRecDepth 100000
set_option maxHeartbeats 8000000
set_option linter.unusedVariables false
set_option linter.unusedSimpArgs false


theorem tnClone_ok (w : World) {s_a : Option Addr} {s_c : Nat} {s : List (Tenant × TA)} (h_s : Sl w eTenant 8 s_a s) (n_s : s.length ≤ 1000000) : Calls Tryz.prog 115 (List.toArray [(vs s_a s.length s_c)]) w fun e w2 => ∃ a1 : Option Addr, ∃ c1 : Nat, ∃ B1 : Heap, e = .returned (vs a1 s.length c1) ∧ Fresh w w2 B1 ∧ OwnB eTenant 8 52 a1 c1 B1 s := by
 have hF := Is.refl s
 refine enter Tryz.func115 Tryz.ntmps115 (h := ?_)
 refine Z216 ?_
 refine JL_q (q_eqNil Tryz.runUnderlying26) (k := ?_)
 refine Z0 ?_
 refine J_cond rfl (fun hq1 => ?_) (fun hq1 => ?_)
 ·refine J_seq ?_
  refine Z270 ?_
  refine JX_ret Tryz.results115 (Res.tmp rfl Res.nil) (fun w1 hw1 => ?_)
  have hcan0 : ([] : List (Tenant × TA)) = s := by (first | rfl | (exact clone_nil h_s (by assumption)))
  have hlen0 : 0 = s.length := by first | (rw [← hcan0]; done) | (rw [← hcan0]; first | rfl | (simp; done) | (simp only [List.length_append, List.length_take, List.length_drop, List.length_set, List.length_replicate, List.length_cons, List.length_nil, List.length_map, toS_length, toI_length]; omega) | (simp; omega))
  exact ⟨none, 0, [], (by rw [← hlen0]; first | rfl | rfl), (hw1.fresh_out.sub (List.nil_sublist _)), (hcan0 ▸ OwnB.nil)⟩
 refine Z390 ?_
 refine JL_a noMk (a_bslice (l := []) Tryz.runUnderlying26 Tryz.sizeOf52 Tryz.zeroValue52) (k := fun r1 hr1 => ?_)
 refine Z481 ?_
 refine JL_append s (List.nil_append _) TY_52 Tryz.underlying26 eTenant_ok OwnB.nil (List.Perm.refl _) (SlJ.of_base h_s) ⟨by omega, by omega⟩ (n := 0) (m := s.length) (k := fun ax1 cx1 Bx1 hox1 => ?_)
 refine Z6 ?_
 refine JX_ret Tryz.results115 (Res.tmp rfl Res.nil) (fun w1 hw1 => ?_)
 have hcan0 : s = s := by (first | rfl | (exact clone_nil h_s (by assumption)))
 have hlen0 : s.length = s.length := by first | (rw [← hcan0]; done) | (rw [← hcan0]; first | rfl | (simp; done) | (simp only [List.length_append, List.length_take, List.length_drop, List.length_set, List.length_replicate, List.length_cons, List.length_nil, List.length_map, toS_length, toI_length]; omega) | (simp; omega))
 exact ⟨ax1, cx1, Bx1, (by rw [← hlen0]; first | rfl | rfl), (fresh_segs (L := Bx1) (hw1.perm (List.Perm.refl _)) rfl.symm), (hcan0 ▸ hox1)⟩

theorem tnDelete_ok (w : World) {s_a : Option Addr} {s_c : Nat} {s_B : Heap} {s : List (Tenant × TA)} {i : Int} {j : Int} (o_s : OwnB eTenant 8 52 s_a s_c s_B s) (b_s : ∀ p ∈ s_B, w.heap[p.1]? = some p.2) (n_s : s.length ≤ 1000000) (hi : 0 ≤ i ∧ i < j ∧ j ≤ s.length) : Calls Tryz.prog 114 (List.toArray [(vs s_a s.length s_c), (vi i), (vi j)]) w fun e w2 => ∃ a1 : Option Addr, ∃ c1 : Nat, ∃ B1 : Heap, e = .returned (vs a1 ((delL s i.toNat j.toNat).length) c1) ∧ Tr w w2 s_B B1 ∧ OwnB eTenant 8 52 a1 c1 B1 (delL s i.toNat j.toNat) := by
 have hF := Is.refl (delL s i.toNat j.toNat)
 have hiN : i.toNat < j.toNat ∧ j.toNat ≤ s.length := by omega
 have hMk : ∀ k ∈ keys s_B, k < w.heap.size := fun k hk => by
  obtain ⟨o, ho⟩ := keys_mem hk
  exact (Array.getElem?_eq_some_iff.1 (b_s _ ho)).1
 have hle0 := o_s.le'
 refine enterM (keys s_B) (s_B ++ []) (by simpa using b_s) (fun p hp => mem_keys (by simpa using hp)) (by simpa using o_s.nd) Tryz.func114 Tryz.ntmps114 (h := ?_)
 refine Z2 ?_
 refine Z107 ?_
 refine Z27 ?_
 refine Z381 ?_
 have hle1 := o_s.le'
 refine JL_q (q_sliceLoHiMax (n := s.length) (c := s_c) (i := i) (i2 := j) (i3 := ((s.length : Nat) : Int)) i.toNat j.toNat s.length (j.toNat - i.toNat) Tryz.runUnderlying26 Tryz.sizeOf52 (hlo := by first | exact ix) (hhi := by first | exact ix) (hmx := by first | exact ix) (hm := rfl)) (k := ?_)
 refine Z72 ?_
 refine Z39 ?_
 refine Z281 ?_
 refine J_dec rfl (fun hq2 => ?_) (fun hq2 => ?_)
 ·exfalso
  omega
 refine Z428 ?_
 refine Z522 ?_
 refine Z435 ?_
 refine Z62 ?_
 have hl3 : (s.take i.toNat).length = i.toNat := by rw [List.length_take]; omega
 have hl3c := o_s.le'
 refine JD_q (q_sliceHi' (s.take i.toNat).length Tryz.runUnderlying26 (fun w => ⟨_, Tryz.sizeOf52 w⟩) (hm := by omega) (hi := by omega)) (k := ?_)
 refine Z62 ?_
 have hle4 := o_s.le'
 have hld5 : (s.drop j.toNat).length = s.length - j.toNat := List.length_drop
 refine JD_q (q_sliceLo (n := s.length) (c := s_c) (i := j) j.toNat (s.drop j.toNat).length Tryz.runUnderlying26 Tryz.sizeOf52 (hlo := by first | exact ix) (hnc := by first | omega | exact Nat.le_refl _) (hm := by first | rfl | (simp; done) | ((simp only [List.length_append, List.length_take, List.length_drop, List.length_set, List.length_replicate, List.length_cons, List.length_nil, List.length_map, toS_length, toI_length]) <;> omega))) (k := ?_)
 refine JD_appendIn (n := (s.take i.toNat).length) (m := (s.drop j.toNat).length) ((s.take i.toNat) ++ (s.drop j.toNat)) rfl TY_52 Tryz.underlying26 eTenant_ok (o_s.take eTenant_ok i.toNat) q0 (SlJ.off (o_s.slj eTenant_ok (by intro p hp; first | exact hp | (simp [hp]; done))) j.toNat s_c (by first | omega | exact Nat.le_refl _)) (by first | exact lb) (k := fun Bx2 hox2 => ?_)
 refine Z124 ?_
 refine JL_eqL (nA nE) ?_
 refine Z0 ?_
 refine Z39 ?_
 refine Z522 ?_
 refine Z481 ?_
 have hle6 := hox2.le'
 refine JL_q (q_sliceLoHi (n := ((s.take i.toNat) ++ (s.drop j.toNat)).length) (c := s_c) (i := (((((s.take i.toNat) ++ (s.drop j.toNat)).length) : Nat) : Int)) (i2 := ((s.length : Nat) : Int)) (((s.take i.toNat) ++ (s.drop j.toNat)).length) s.length (s.length - (((s.take i.toNat) ++ (s.drop j.toNat)).length)) Tryz.runUnderlying26 Tryz.sizeOf52 (hlo := by first | exact ix) (hhi := by first | exact ix) (hm := rfl)) (k := ?_)
 refine JL_clearOff (dn := (s.length - (((s.take i.toNat) ++ (s.drop j.toNat)).length))) (x0 := default) (((s.take i.toNat) ++ (s.drop j.toNat)).length) TY_52 Tryz.zeroValue52 rfl Tryz.underlying26 eTenant_ok hox2 q0 (by first | exact lb) (by first | exact lb) (kk := fun Bx3 hox3 => ?_)
 refine Z237 ?_
 refine Z6 ?_
 refine JX_ret Tryz.results114 (Res.tmp rfl Res.nil) (fun w1 hw1 => ?_)
 have hcan0 : ((s.take i.toNat) ++ (s.drop j.toNat)) = (delL s i.toNat j.toNat) := by rfl
 have hlen0 : ((s.take i.toNat) ++ (s.drop j.toNat)).length = (delL s i.toNat j.toNat).length := by first | (rw [← hcan0]; done) | (rw [← hcan0]; first | rfl | (simp; done) | (simp only [List.length_append, List.length_take, List.length_drop, List.length_set, List.length_replicate, List.length_cons, List.length_nil, List.length_map, toS_length, toI_length]; omega) | (simp; omega))
 exact ⟨s_a, s_c, Bx3, (by rw [← hlen0]; first | rfl | rfl), ((hw1.perm (List.Perm.refl _)).tr_out.sub (by first | exact List.sublist_append_left _ _ | exact List.nil_sublist _)), (hcan0 ▸ hox3)⟩

theorem tnGrow_ok (w : World) {n_ : Int} (hi : 0 ≤ n_ ∧ n_ ≤ 1000000) : Calls Tryz.prog 127 (List.toArray [(vs none 0 0), (vi n_)]) w fun e w2 => ∃ a1 : Option Addr, ∃ c1 : Nat, ∃ B1 : Heap, e = .returned (vs a1 (([] : List (Tenant × TA)).length) c1) ∧ Fresh w w2 B1 ∧ OwnB eTenant 8 52 a1 c1 B1 ([] : List (Tenant × TA)) := by
 have hF := Is.refl ([] : List (Tenant × TA))
 refine enter Tryz.func127 Tryz.ntmps127 (h := ?_)
 refine Z216 ?_
 refine Z12 ?_
 refine J_dec rfl (fun hq1 => ?_) (fun hq1 => ?_)
 ·exfalso
  omega
 refine Z167 ?_
 refine Z39 ?_
 refine JL_q (q_cap Tryz.runUnderlying26) (k := ?_)
 refine Z381 ?_
 refine Z495 ?_
 refine Z495 ?_
 refine Z107 ?_
 refine JL_q q_gtr (k := ?_)
 refine Z0 ?_
 refine J_dec rfl (fun hq2 => ?_) (fun hq2 => ?_)
 rotate_left
 ·refine J_skip ?_
  refine JX_seq ?_
  refine Z4 ?_
  refine Z6 ?_
  refine JX_ret Tryz.results127 (Res.tmp rfl Res.nil) (fun w1 hw1 => ?_)
  have hcan0 : ([] : List (Tenant × TA)) = ([] : List (Tenant × TA)) := by (first | rfl | simp)
  have hlen0 : 0 = ([] : List (Tenant × TA)).length := by first | (rw [← hcan0]; done) | (rw [← hcan0]; first | rfl | (simp; done) | (simp only [List.length_append, List.length_take, List.length_drop, List.length_set, List.length_replicate, List.length_cons, List.length_nil, List.length_map, toS_length, toI_length]; omega) | (simp; omega))
  exact ⟨none, 0, [], (by rw [← hlen0]; first | rfl | rfl), (hw1.fresh_out.sub (List.nil_sublist _)), (hcan0 ▸ OwnB.nil)⟩
 refine Z174 ?_
 refine JL_q (q_cap Tryz.runUnderlying26) (k := ?_)
 have hl3 : (([] : List (Tenant × TA)).take 0).length = 0 := by rw [List.length_take]; omega
 refine JL_q (q_sliceHi' (([] : List (Tenant × TA)).take 0).length Tryz.runUnderlying26 (fun w => ⟨_, Tryz.sizeOf52 w⟩) (hm := by omega) (hi := by omega)) (k := ?_)
 refine Z481 ?_
 refine JL_appendZ (i := (n_ - 0)) (n := (([] : List (Tenant × TA)).take 0).length) (c := 0) (x0 := default) (xs := (([] : List (Tenant × TA)).take 0)) (m := (n_ - 0).toNat) TY_52 Tryz.underlying26 Tryz.underlying3 eTenant_ok rfl (SlJ.nilj.take 0) (by first | exact ix) (by first | exact ix) (by first | exact ix) ⟨by first | exact ix, by first | exact ix⟩ (by omega) (k := fun ax1 cx1 Bx1 hox1 => ?_)
 refine Z381 ?_
 have hl4 : (((([] : List (Tenant × TA)).take 0) ++ List.replicate ((n_ - 0).toNat) default).take 0).length = 0 := by rw [List.length_take]; omega
 have hl4c := hox1.le'
 refine JL_q (q_sliceHi' (((([] : List (Tenant × TA)).take 0) ++ List.replicate ((n_ - 0).toNat) default).take 0).length Tryz.runUnderlying26 (fun w => ⟨_, Tryz.sizeOf52 w⟩) (hm := by omega) (hi := by omega)) (k := ?_)
 refine Z107 ?_
 refine Z6 ?_
 refine JX_ret Tryz.results127 (Res.tmp rfl Res.nil) (fun w1 hw1 => ?_)
 have hcan0 : (((([] : List (Tenant × TA)).take 0) ++ List.replicate ((n_ - 0).toNat) default).take 0) = ([] : List (Tenant × TA)) := by (first | rfl | simp)
 have hlen0 : (((([] : List (Tenant × TA)).take 0) ++ List.replicate ((n_ - 0).toNat) default).take 0).length = ([] : List (Tenant × TA)).length := by first | (rw [← hcan0]; done) | (rw [← hcan0]; first | rfl | (simp; done) | (simp only [List.length_append, List.length_take, List.length_drop, List.length_set, List.length_replicate, List.length_cons, List.length_nil, List.length_map, toS_length, toI_length]; omega) | (simp; omega))
 exact ⟨ax1, cx1, Bx1, (by rw [← hlen0]; first | rfl | rfl), (fresh_segs (L := Bx1) (hw1.perm (List.Perm.refl _)) rfl.symm), (hcan0 ▸ (hox1.take eTenant_ok 0))⟩

theorem gPut_ok (w : World) {s0a : Option Addr} {s0n : Nat} {s0c : Nat} {s1a : Option Addr} {s1n : Nat} {s1c : Nat} {s2a : Option Addr} {s2n : Nat} {s2c : Nat} {q_ : Int} {l_a : Option Addr} {l_c : Nat} {l : List (Tenant × TA)} {x : Tenant × TA} (h_l : Sl w eTenant 8 l_a l) (n_l : l.length ≤ 1000) (k_l : l.length ≤ l_c) : Calls Tryz.prog 51 (List.toArray [(Value.agg [(vs s0a s0n s0c), (vs s1a s1n s1c), (vs s2a s2n s2c), (vs l_a l.length l_c), (vi q_)].toArray), (Value.agg [(vi x.1.handle.slot), (vi x.1.handle.gen), (vt x.1.name), (vi x.1.state), (vi x.1.version), (vs x.2.ra x.1.rules.length x.2.rc), (vs x.2.ca x.1.creds.length x.2.cc), (vi x.1.deadline)].toArray)]) w fun e w2 => ∃ a1 : Option Addr, ∃ c1 : Nat, ∃ B1 : Heap, e = .returned (Value.agg [(vs s0a s0n s0c), (vs s1a s1n s1c), (vs s2a s2n s2c), (vs a1 ((gPut l x).length) c1), (vi q_)].toArray) ∧ Fresh w w2 B1 ∧ OwnB eTenant 8 52 a1 c1 B1 (gPut l x) := by
 have hF := Is.refl (gPut l x)
 refine enter Tryz.func51 Tryz.ntmps51 (h := ?_)
 refine Z2 ?_
 refine JL_a noMk (a_box (l := [_, _, _, _, _])) (k := fun r1 hr1 => ?_)
 refine JL_a noMk (a_box (l := [_, _, _, _, _, _, _, _])) (k := fun r2 hr2 => ?_)
 refine JL_a noMk (a_alloc (l := [_, _, _, _, _]) Tryz.zeroValue28) (k := fun r3 hr3 => ?_)
 refine Z320 ?_
 refine Z1 ?_
 refine Z25 ?_
 refine J_loop2 (σ1 := Nat) (σ2 := Nat) (fun n_2 at_1 => ((r3, oc [(vs none 0 0), (vs none 0 0), (vs none 0 0), (vs none 0 0), (vi 0)] 28) :: ((r2, oc [(vi x.1.handle.slot), (vi x.1.handle.gen), (vt x.1.name), (vi x.1.state), (vi x.1.version), (vs x.2.ra x.1.rules.length x.2.rc), (vs x.2.ca x.1.creds.length x.2.cc), (vi x.1.deadline)] 52) :: ((r1, oc [(vs s0a s0n s0c), (vs s1a s1n s1c), (vs s2a s2n s2c), (vs l_a l.length l_c), (vi q_)] 28) :: [])))) (fun n_2 at_1 => [(2, (Value.pointer (some ⟨r1, 0, none⟩))), (3, (Value.pointer (some ⟨r2, 0, none⟩))), (4, (Value.pointer (some ⟨r3, 0, none⟩))), (5, (vi ((at_1 : Nat) : Int)))]) (fun n_2 at_1 => l.length - at_1 < n_2 ∧ Is (gPut_l0 l x (l.length + 1) 0) (gPut_l0 l x n_2 at_1) ∧ at_1 ≤ l.length) (fun n_2 at_1 => n_2) (l.length + 1) 0 ?_ se (List.Perm.refl _) ?_
 ·exact ⟨Nat.lt_succ_self _, Is.refl _, (by first | omega | rfl | (simp; done))⟩
 ·rintro (_ | n_2) at_1 ⟨hm4, hF3, hi5⟩
  ·omega
  refine J_seq ?_
  refine J_seq ?_
  refine J_plan mixed 18 [(true, 0), (true, 1), (true, 2), (true, 3), (true, 4), (true, 5), (true, 6), (true, 7), (true, 8), (true, 9), (true, 10), (true, 11), (true, 12), (true, 13), (true, 14), (true, 15), (true, 16), (true, 17)] (by kernel_rfl) ?_
  refine Z483 ?_
  refine Z322 ?_
  refine JD_q (q_lenS Tryz.runUnderlying26) (k := ?_)
  refine JD_q q_lss (k := ?_)
  refine Z483 ?_
  refine JD_dec 12 rfl (fun hq1 => ?_) (fun hq1 => ?_)
  rotate_left
  ·refine JD_skips 11 rfl ?_
   refine Z166 ?_
   refine Z49 ?_
   refine J_exit ?_
   refine Z123 ?_
   refine Z2 ?_
   refine Z147 ?_
   refine Z481 ?_
   have hld19 : (l.drop at_1).length = l.length - at_1 := List.length_drop
   refine Z207 ?_
   refine J_seq ?_
   refine Z370 ?_
   refine JD_q (q_lenS Tryz.runUnderlying26) (k := ?_)
   refine JD_q q_gtr (k := ?_)
   refine Z483 ?_
   refine JD_dec 34 rfl (fun hq20 => ?_) (fun hq20 => ?_)
   rotate_left
   ·refine JD_skips 9 rfl ?_
    refine Z166 ?_
    refine Z49 ?_
    refine Z167 ?_
    refine Z352 ?_
    refine Z62 ?_
    have hl31 : (l.take at_1).length = at_1 := by rw [List.length_take]; omega
    refine Z447 ?_
    refine JD_a noMk (a_bslice (l := [_, _, _, _, _, _, _, _]) Tryz.runUnderlying26 Tryz.sizeOf52 Tryz.zeroValue52) (k := fun r14 hr14 => ?_)
    refine JD_a noMk (a_bslice (l := [_, _, _]) Tryz.runUnderlying182 Tryz.sizeOf26 Tryz.zeroValue26) (k := fun r15 hr15 => ?_)
    refine Z234 ?_
    refine Z404 ?_
    refine Z304 ?_
    refine J_dec rfl (fun hq32 => ?_) (fun hq32 => ?_)
    ·exfalso
     omega
    refine Z100 ?_
    refine Z131 ?_
    refine Z304 ?_
    refine J_dec rfl (fun hq33 => ?_) (fun hq33 => ?_)
    ·exfalso
     omega
    refine Z100 ?_
    refine Z132 ?_
    refine Z304 ?_
    refine J_dec rfl (fun hq34 => ?_) (fun hq34 => ?_)
    ·exfalso
     omega
    refine Z250 ?_
    refine Z123 ?_
    refine Z165 ?_
    rintro w1_7 e1_7 w2_7 hw1_7 ⟨a1_7, c1_7, B1_7, he_7, hf_7, ho1_7⟩
    refine ⟨_, _, he_7, hw1_7.fresh hf_7, ?_⟩
    refine Z404 ?_
    refine Z174 ?_
    refine JL_append (([] : List (Tenant × TA)) ++ (l.take at_1)) rfl TY_52 Tryz.underlying26 eTenant_ok ho1_7 q0 ((SlJ.of_base h_l).take at_1) ⟨by first | omega | (simp only [List.length_append, List.length_nil, List.length_take, List.length_drop, List.length_cons]; omega), by first | omega | (simp only [List.length_append, List.length_nil, List.length_take, List.length_drop, List.length_cons]; omega)⟩ (n := ([] : List (Tenant × TA)).length) (m := (l.take at_1).length) (k := fun ax16 cx16 Bx16 hox16 => ?_)
    have hal16 : (([] : List (Tenant × TA)) ++ (l.take at_1)).length = ([] : List (Tenant × TA)).length + (l.take at_1).length := by first | rfl | exact List.length_append | simp
    refine Z405 ?_
    refine Z131 ?_
    refine Z174 ?_
    refine JL_append ((([] : List (Tenant × TA)) ++ (l.take at_1)) ++ ([x] : List (Tenant × TA))) rfl TY_52 Tryz.underlying26 eTenant_ok hox16 q0 (SlJ.lit (xs := ([x] : List (Tenant × TA))) eTenant_ok) ⟨by first | omega | (simp only [List.length_append, List.length_nil, List.length_take, List.length_drop, List.length_cons]; omega), by first | omega | (simp only [List.length_append, List.length_nil, List.length_take, List.length_drop, List.length_cons]; omega)⟩ (n := (([] : List (Tenant × TA)) ++ (l.take at_1)).length) (m := 1) (k := fun ax17 cx17 Bx17 hox17 => ?_)
    have hal17 : ((([] : List (Tenant × TA)) ++ (l.take at_1)) ++ ([x] : List (Tenant × TA))).length = (([] : List (Tenant × TA)) ++ (l.take at_1)).length + 1 := by first | rfl | exact List.length_append | simp
    refine Z405 ?_
    refine Z132 ?_
    refine Z174 ?_
    refine JL_append (((([] : List (Tenant × TA)) ++ (l.take at_1)) ++ ([x] : List (Tenant × TA))) ++ (l.drop at_1)) rfl TY_52 Tryz.underlying26 eTenant_ok hox17 q0 (SlJ.off (SlJ.of_base h_l) at_1 l_c (by first | omega | exact Nat.le_refl _)) ⟨by first | omega | (simp only [List.length_append, List.length_nil, List.length_take, List.length_drop, List.length_cons]; omega), by first | omega | (simp only [List.length_append, List.length_nil, List.length_take, List.length_drop, List.length_cons]; omega)⟩ (n := ((([] : List (Tenant × TA)) ++ (l.take at_1)) ++ ([x] : List (Tenant × TA))).length) (m := (l.drop at_1).length) (k := fun ax18 cx18 Bx18 hox18 => ?_)
    have hal18 : (((([] : List (Tenant × TA)) ++ (l.take at_1)) ++ ([x] : List (Tenant × TA))) ++ (l.drop at_1)).length = ((([] : List (Tenant × TA)) ++ (l.take at_1)) ++ ([x] : List (Tenant × TA))).length + (l.drop at_1).length := by first | rfl | exact List.length_append | simp
    refine Z318 ?_
    refine Z134 ?_
    refine Z353 ?_
    refine Z6 ?_
    refine Z112 ?_
    refine Z246 ?_
    refine Z392 ?_
    refine Z143 ?_
    refine JX_ret Tryz.results51 (Res.agg Tryz.isAgg28 Tryz.sizeOf28 rfl me rfl Res.nil) (fun w1 hw1 => ?_)
    exact ⟨ax18, cx18, Bx18, (by rw [(((((hF.rn1 (hF3.neg hq1)).neg hq20).neg hq32).neg hq33).neg hq34).eq] <;> first | rfl | (simp only [List.length_set] <;> rfl)), (fresh_segs (L := Bx18) (hw1.perm (List.Perm.refl _)) rfl), (by rw [(((((hF.rn1 (hF3.neg hq1)).neg hq20).neg hq32).neg hq33).neg hq34).eq]; exact hox18)⟩
   refine Z485 ?_
   refine Z341 ?_
   refine Z418 ?_
   refine JD_qg (q_fld FO_52_0) (k := ?_)
   refine Z478 ?_
   refine JD_qg q_eql (k := ?_)
   refine Z92 ?_
   refine Z0 ?_
   refine J_dec rfl (fun hq21 => ?_) (fun hq21 => ?_)
   rotate_left
   ·refine J_skip ?_
    refine Z403 ?_
    refine Z352 ?_
    refine Z62 ?_
    have hl27 : (l.take at_1).length = at_1 := by rw [List.length_take]; omega
    refine Z447 ?_
    refine JD_a noMk (a_bslice (l := [_, _, _, _, _, _, _, _]) Tryz.runUnderlying26 Tryz.sizeOf52 Tryz.zeroValue52) (k := fun r12 hr12 => ?_)
    refine JD_a noMk (a_bslice (l := [_, _, _]) Tryz.runUnderlying182 Tryz.sizeOf26 Tryz.zeroValue26) (k := fun r13 hr13 => ?_)
    refine Z234 ?_
    refine Z404 ?_
    refine Z304 ?_
    refine J_dec rfl (fun hq28 => ?_) (fun hq28 => ?_)
    ·exfalso
     omega
    refine Z100 ?_
    refine Z131 ?_
    refine Z304 ?_
    refine J_dec rfl (fun hq29 => ?_) (fun hq29 => ?_)
    ·exfalso
     omega
    refine Z100 ?_
    refine Z132 ?_
    refine Z304 ?_
    refine J_dec rfl (fun hq30 => ?_) (fun hq30 => ?_)
    ·exfalso
     omega
    refine Z250 ?_
    refine Z123 ?_
    refine Z165 ?_
    rintro w1_6 e1_6 w2_6 hw1_6 ⟨a1_6, c1_6, B1_6, he_6, hf_6, ho1_6⟩
    refine ⟨_, _, he_6, hw1_6.fresh hf_6, ?_⟩
    refine Z404 ?_
    refine Z174 ?_
    refine JL_append (([] : List (Tenant × TA)) ++ (l.take at_1)) rfl TY_52 Tryz.underlying26 eTenant_ok ho1_6 q0 ((SlJ.of_base h_l).take at_1) ⟨by first | omega | (simp only [List.length_append, List.length_nil, List.length_take, List.length_drop, List.length_cons]; omega), by first | omega | (simp only [List.length_append, List.length_nil, List.length_take, List.length_drop, List.length_cons]; omega)⟩ (n := ([] : List (Tenant × TA)).length) (m := (l.take at_1).length) (k := fun ax13 cx13 Bx13 hox13 => ?_)
    have hal13 : (([] : List (Tenant × TA)) ++ (l.take at_1)).length = ([] : List (Tenant × TA)).length + (l.take at_1).length := by first | rfl | exact List.length_append | simp
    refine Z405 ?_
    refine Z131 ?_
    refine Z174 ?_
    refine JL_append ((([] : List (Tenant × TA)) ++ (l.take at_1)) ++ ([x] : List (Tenant × TA))) rfl TY_52 Tryz.underlying26 eTenant_ok hox13 q0 (SlJ.lit (xs := ([x] : List (Tenant × TA))) eTenant_ok) ⟨by first | omega | (simp only [List.length_append, List.length_nil, List.length_take, List.length_drop, List.length_cons]; omega), by first | omega | (simp only [List.length_append, List.length_nil, List.length_take, List.length_drop, List.length_cons]; omega)⟩ (n := (([] : List (Tenant × TA)) ++ (l.take at_1)).length) (m := 1) (k := fun ax14 cx14 Bx14 hox14 => ?_)
    have hal14 : ((([] : List (Tenant × TA)) ++ (l.take at_1)) ++ ([x] : List (Tenant × TA))).length = (([] : List (Tenant × TA)) ++ (l.take at_1)).length + 1 := by first | rfl | exact List.length_append | simp
    refine Z405 ?_
    refine Z132 ?_
    refine Z174 ?_
    refine JL_append (((([] : List (Tenant × TA)) ++ (l.take at_1)) ++ ([x] : List (Tenant × TA))) ++ (l.drop at_1)) rfl TY_52 Tryz.underlying26 eTenant_ok hox14 q0 (SlJ.off (SlJ.of_base h_l) at_1 l_c (by first | omega | exact Nat.le_refl _)) ⟨by first | omega | (simp only [List.length_append, List.length_nil, List.length_take, List.length_drop, List.length_cons]; omega), by first | omega | (simp only [List.length_append, List.length_nil, List.length_take, List.length_drop, List.length_cons]; omega)⟩ (n := ((([] : List (Tenant × TA)) ++ (l.take at_1)) ++ ([x] : List (Tenant × TA))).length) (m := (l.drop at_1).length) (k := fun ax15 cx15 Bx15 hox15 => ?_)
    have hal15 : (((([] : List (Tenant × TA)) ++ (l.take at_1)) ++ ([x] : List (Tenant × TA))) ++ (l.drop at_1)).length = ((([] : List (Tenant × TA)) ++ (l.take at_1)) ++ ([x] : List (Tenant × TA))).length + (l.drop at_1).length := by first | rfl | exact List.length_append | simp
    refine Z318 ?_
    refine Z134 ?_
    refine Z353 ?_
    refine Z6 ?_
    refine Z112 ?_
    refine Z246 ?_
    refine Z392 ?_
    refine Z143 ?_
    refine JX_ret Tryz.results51 (Res.agg Tryz.isAgg28 Tryz.sizeOf28 rfl me rfl Res.nil) (fun w1 hw1 => ?_)
    exact ⟨ax15, cx15, Bx15, (by rw [((((((hF.rn1 (hF3.neg hq1)).pos hq20).neg hq21).neg hq28).neg hq29).neg hq30).eq] <;> first | rfl | (simp only [List.length_set] <;> rfl)), (fresh_segs (L := Bx15) (hw1.perm (List.Perm.refl _)) rfl), (by rw [((((((hF.rn1 (hF3.neg hq1)).pos hq20).neg hq21).neg hq28).neg hq29).neg hq30).eq]; exact hox15)⟩
   refine Z117 ?_
   have hld22 : ((l.drop at_1).drop 1).length = (l.drop at_1).length - 1 := List.length_drop
   refine Z204 ?_
   refine Z352 ?_
   refine Z62 ?_
   have hl23 : (l.take at_1).length = at_1 := by rw [List.length_take]; omega
   refine Z447 ?_
   refine JD_a noMk (a_bslice (l := [_, _, _, _, _, _, _, _]) Tryz.runUnderlying26 Tryz.sizeOf52 Tryz.zeroValue52) (k := fun r10 hr10 => ?_)
   refine JD_a noMk (a_bslice (l := [_, _, _]) Tryz.runUnderlying182 Tryz.sizeOf26 Tryz.zeroValue26) (k := fun r11 hr11 => ?_)
   refine Z234 ?_
   refine Z404 ?_
   refine Z304 ?_
   refine J_dec rfl (fun hq24 => ?_) (fun hq24 => ?_)
   ·exfalso
    omega
   refine Z100 ?_
   refine Z131 ?_
   refine Z304 ?_
   refine J_dec rfl (fun hq25 => ?_) (fun hq25 => ?_)
   ·exfalso
    omega
   refine Z100 ?_
   refine Z132 ?_
   refine Z304 ?_
   refine J_dec rfl (fun hq26 => ?_) (fun hq26 => ?_)
   ·exfalso
    omega
   refine Z250 ?_
   refine Z365 ?_
   rintro w1_5 e1_5 w2_5 hw1_5 ⟨a1_5, c1_5, B1_5, he_5, hf_5, ho1_5⟩
   refine ⟨_, _, he_5, hw1_5.fresh hf_5, ?_⟩
   refine Z404 ?_
   refine Z174 ?_
   refine JL_append (([] : List (Tenant × TA)) ++ (l.take at_1)) rfl TY_52 Tryz.underlying26 eTenant_ok ho1_5 q0 ((SlJ.of_base h_l).take at_1) ⟨by first | omega | (simp only [List.length_append, List.length_nil, List.length_take, List.length_drop, List.length_cons]; omega), by first | omega | (simp only [List.length_append, List.length_nil, List.length_take, List.length_drop, List.length_cons]; omega)⟩ (n := ([] : List (Tenant × TA)).length) (m := (l.take at_1).length) (k := fun ax10 cx10 Bx10 hox10 => ?_)
   have hal10 : (([] : List (Tenant × TA)) ++ (l.take at_1)).length = ([] : List (Tenant × TA)).length + (l.take at_1).length := by first | rfl | exact List.length_append | simp
   refine Z405 ?_
   refine Z131 ?_
   refine Z174 ?_
   refine JL_append ((([] : List (Tenant × TA)) ++ (l.take at_1)) ++ ([x] : List (Tenant × TA))) rfl TY_52 Tryz.underlying26 eTenant_ok hox10 q0 (SlJ.lit (xs := ([x] : List (Tenant × TA))) eTenant_ok) ⟨by first | omega | (simp only [List.length_append, List.length_nil, List.length_take, List.length_drop, List.length_cons]; omega), by first | omega | (simp only [List.length_append, List.length_nil, List.length_take, List.length_drop, List.length_cons]; omega)⟩ (n := (([] : List (Tenant × TA)) ++ (l.take at_1)).length) (m := 1) (k := fun ax11 cx11 Bx11 hox11 => ?_)
   have hal11 : ((([] : List (Tenant × TA)) ++ (l.take at_1)) ++ ([x] : List (Tenant × TA))).length = (([] : List (Tenant × TA)) ++ (l.take at_1)).length + 1 := by first | rfl | exact List.length_append | simp
   refine Z405 ?_
   refine Z132 ?_
   refine Z174 ?_
   refine JL_append (((([] : List (Tenant × TA)) ++ (l.take at_1)) ++ ([x] : List (Tenant × TA))) ++ ((l.drop at_1).drop 1)) rfl TY_52 Tryz.underlying26 eTenant_ok hox11 q0 (SlJ.off (SlJ.off (SlJ.of_base h_l) at_1 l_c (by first | omega | exact Nat.le_refl _)) 1 (l_c - at_1) (by first | omega | exact Nat.le_refl _)) ⟨by first | omega | (simp only [List.length_append, List.length_nil, List.length_take, List.length_drop, List.length_cons]; omega), by first | omega | (simp only [List.length_append, List.length_nil, List.length_take, List.length_drop, List.length_cons]; omega)⟩ (n := ((([] : List (Tenant × TA)) ++ (l.take at_1)) ++ ([x] : List (Tenant × TA))).length) (m := ((l.drop at_1).drop 1).length) (k := fun ax12 cx12 Bx12 hox12 => ?_)
   have hal12 : (((([] : List (Tenant × TA)) ++ (l.take at_1)) ++ ([x] : List (Tenant × TA))) ++ ((l.drop at_1).drop 1)).length = ((([] : List (Tenant × TA)) ++ (l.take at_1)) ++ ([x] : List (Tenant × TA))).length + ((l.drop at_1).drop 1).length := by first | rfl | exact List.length_append | simp
   refine Z318 ?_
   refine Z134 ?_
   refine Z353 ?_
   refine Z6 ?_
   refine Z112 ?_
   refine Z246 ?_
   refine Z392 ?_
   refine Z143 ?_
   refine JX_ret Tryz.results51 (Res.agg Tryz.isAgg28 Tryz.sizeOf28 rfl me rfl Res.nil) (fun w1 hw1 => ?_)
   exact ⟨ax12, cx12, Bx12, (by rw [((((((hF.rn1 (hF3.neg hq1)).pos hq20).pos hq21).neg hq24).neg hq25).neg hq26).eq] <;> first | rfl | (simp only [List.length_set] <;> rfl)), (fresh_segs (L := Bx12) (hw1.perm (List.Perm.refl _)) rfl), (by rw [((((((hF.rn1 (hF3.neg hq1)).pos hq20).pos hq21).neg hq24).neg hq25).neg hq26).eq]; exact hox12)⟩
  refine Z406 ?_
  refine JD_qg (q_idx (n := l.length) Tryz.runUnderlying26 Tryz.sizeOf52 at_1 (SlJ.of_base h_l) (gD (by first | exact ix)) (by first | rfl | simp)) (k := ?_)
  refine JD_qg (q_fldE FO_52_0) (k := ?_)
  refine JD_qg (q_fldE FO_42_0) (k := ?_)
  refine JD_qg (q_loadE Tryz.isAgg3 at_1 0 (SlJ.of_base h_l) (gD (by first | exact ix))) (k := ?_)
  refine JD_qg (q_fld FO_52_0) (k := ?_)
  refine Z478 ?_
  refine JD_qg q_lss (k := ?_)
  refine Z92 ?_
  refine Z0 ?_
  refine J_dec rfl (fun hq2 => ?_) (fun hq2 => ?_)
  ·refine J_skip ?_
   refine JX_seq ?_
   refine J_block ?_
   refine Z454 ?_
   refine Z59 ?_
   refine JX_block ?_
   exact JX_inv2 n_2 (at_1 + 1) ⟨by omega, ((hF3.pos hq1).pos hq2), (by omega)⟩ (Nat.lt_succ_self _) se (List.Perm.refl _)
  refine J_exit ?_
  refine Z123 ?_
  refine Z2 ?_
  refine Z147 ?_
  refine Z481 ?_
  have hld3 : (l.drop at_1).length = l.length - at_1 := List.length_drop
  refine Z207 ?_
  refine J_seq ?_
  refine Z370 ?_
  refine JD_q (q_lenS Tryz.runUnderlying26) (k := ?_)
  refine JD_q q_gtr (k := ?_)
  refine Z483 ?_
  refine JD_dec 34 rfl (fun hq4 => ?_) (fun hq4 => ?_)
  rotate_left
  ·refine JD_skips 9 rfl ?_
   refine Z166 ?_
   refine Z49 ?_
   refine Z167 ?_
   refine Z352 ?_
   refine Z62 ?_
   have hl15 : (l.take at_1).length = at_1 := by rw [List.length_take]; omega
   refine Z447 ?_
   refine JD_a noMk (a_bslice (l := [_, _, _, _, _, _, _, _]) Tryz.runUnderlying26 Tryz.sizeOf52 Tryz.zeroValue52) (k := fun r8 hr8 => ?_)
   refine JD_a noMk (a_bslice (l := [_, _, _]) Tryz.runUnderlying182 Tryz.sizeOf26 Tryz.zeroValue26) (k := fun r9 hr9 => ?_)
   refine Z234 ?_
   refine Z404 ?_
   refine Z304 ?_
   refine J_dec rfl (fun hq16 => ?_) (fun hq16 => ?_)
   ·exfalso
    omega
   refine Z100 ?_
   refine Z131 ?_
   refine Z304 ?_
   refine J_dec rfl (fun hq17 => ?_) (fun hq17 => ?_)
   ·exfalso
    omega
   refine Z100 ?_
   refine Z132 ?_
   refine Z304 ?_
   refine J_dec rfl (fun hq18 => ?_) (fun hq18 => ?_)
   ·exfalso
    omega
   refine Z250 ?_
   refine Z123 ?_
   refine Z165 ?_
   rintro w1_4 e1_4 w2_4 hw1_4 ⟨a1_4, c1_4, B1_4, he_4, hf_4, ho1_4⟩
   refine ⟨_, _, he_4, hw1_4.fresh hf_4, ?_⟩
   refine Z404 ?_
   refine Z174 ?_
   refine JL_append (([] : List (Tenant × TA)) ++ (l.take at_1)) rfl TY_52 Tryz.underlying26 eTenant_ok ho1_4 q0 ((SlJ.of_base h_l).take at_1) ⟨by first | omega | (simp only [List.length_append, List.length_nil, List.length_take, List.length_drop, List.length_cons]; omega), by first | omega | (simp only [List.length_append, List.length_nil, List.length_take, List.length_drop, List.length_cons]; omega)⟩ (n := ([] : List (Tenant × TA)).length) (m := (l.take at_1).length) (k := fun ax7 cx7 Bx7 hox7 => ?_)
   have hal7 : (([] : List (Tenant × TA)) ++ (l.take at_1)).length = ([] : List (Tenant × TA)).length + (l.take at_1).length := by first | rfl | exact List.length_append | simp
   refine Z405 ?_
   refine Z131 ?_
   refine Z174 ?_
   refine JL_append ((([] : List (Tenant × TA)) ++ (l.take at_1)) ++ ([x] : List (Tenant × TA))) rfl TY_52 Tryz.underlying26 eTenant_ok hox7 q0 (SlJ.lit (xs := ([x] : List (Tenant × TA))) eTenant_ok) ⟨by first | omega | (simp only [List.length_append, List.length_nil, List.length_take, List.length_drop, List.length_cons]; omega), by first | omega | (simp only [List.length_append, List.length_nil, List.length_take, List.length_drop, List.length_cons]; omega)⟩ (n := (([] : List (Tenant × TA)) ++ (l.take at_1)).length) (m := 1) (k := fun ax8 cx8 Bx8 hox8 => ?_)
   have hal8 : ((([] : List (Tenant × TA)) ++ (l.take at_1)) ++ ([x] : List (Tenant × TA))).length = (([] : List (Tenant × TA)) ++ (l.take at_1)).length + 1 := by first | rfl | exact List.length_append | simp
   refine Z405 ?_
   refine Z132 ?_
   refine Z174 ?_
   refine JL_append (((([] : List (Tenant × TA)) ++ (l.take at_1)) ++ ([x] : List (Tenant × TA))) ++ (l.drop at_1)) rfl TY_52 Tryz.underlying26 eTenant_ok hox8 q0 (SlJ.off (SlJ.of_base h_l) at_1 l_c (by first | omega | exact Nat.le_refl _)) ⟨by first | omega | (simp only [List.length_append, List.length_nil, List.length_take, List.length_drop, List.length_cons]; omega), by first | omega | (simp only [List.length_append, List.length_nil, List.length_take, List.length_drop, List.length_cons]; omega)⟩ (n := ((([] : List (Tenant × TA)) ++ (l.take at_1)) ++ ([x] : List (Tenant × TA))).length) (m := (l.drop at_1).length) (k := fun ax9 cx9 Bx9 hox9 => ?_)
   have hal9 : (((([] : List (Tenant × TA)) ++ (l.take at_1)) ++ ([x] : List (Tenant × TA))) ++ (l.drop at_1)).length = ((([] : List (Tenant × TA)) ++ (l.take at_1)) ++ ([x] : List (Tenant × TA))).length + (l.drop at_1).length := by first | rfl | exact List.length_append | simp
   refine Z318 ?_
   refine Z134 ?_
   refine Z353 ?_
   refine Z6 ?_
   refine Z112 ?_
   refine Z246 ?_
   refine Z392 ?_
   refine Z143 ?_
   refine JX_ret Tryz.results51 (Res.agg Tryz.isAgg28 Tryz.sizeOf28 rfl me rfl Res.nil) (fun w1 hw1 => ?_)
   exact ⟨ax9, cx9, Bx9, (by rw [(((((hF.rn1 ((hF3.pos hq1).neg hq2)).neg hq4).neg hq16).neg hq17).neg hq18).eq] <;> first | rfl | (simp only [List.length_set] <;> rfl)), (fresh_segs (L := Bx9) (hw1.perm (List.Perm.refl _)) rfl), (by rw [(((((hF.rn1 ((hF3.pos hq1).neg hq2)).neg hq4).neg hq16).neg hq17).neg hq18).eq]; exact hox9)⟩
  refine Z485 ?_
  refine Z341 ?_
  refine Z418 ?_
  refine JD_qg (q_fld FO_52_0) (k := ?_)
  refine Z478 ?_
  refine JD_qg q_eql (k := ?_)
  refine Z92 ?_
  refine Z0 ?_
  refine J_dec rfl (fun hq5 => ?_) (fun hq5 => ?_)
  rotate_left
  ·refine J_skip ?_
   refine Z403 ?_
   refine Z352 ?_
   refine Z62 ?_
   have hl11 : (l.take at_1).length = at_1 := by rw [List.length_take]; omega
   refine Z447 ?_
   refine JD_a noMk (a_bslice (l := [_, _, _, _, _, _, _, _]) Tryz.runUnderlying26 Tryz.sizeOf52 Tryz.zeroValue52) (k := fun r6 hr6 => ?_)
   refine JD_a noMk (a_bslice (l := [_, _, _]) Tryz.runUnderlying182 Tryz.sizeOf26 Tryz.zeroValue26) (k := fun r7 hr7 => ?_)
   refine Z234 ?_
   refine Z404 ?_
   refine Z304 ?_
   refine J_dec rfl (fun hq12 => ?_) (fun hq12 => ?_)
   ·exfalso
    omega
   refine Z100 ?_
   refine Z131 ?_
   refine Z304 ?_
   refine J_dec rfl (fun hq13 => ?_) (fun hq13 => ?_)
   ·exfalso
    omega
   refine Z100 ?_
   refine Z132 ?_
   refine Z304 ?_
   refine J_dec rfl (fun hq14 => ?_) (fun hq14 => ?_)
   ·exfalso
    omega
   refine Z250 ?_
   refine Z123 ?_
   refine Z165 ?_
   rintro w1_3 e1_3 w2_3 hw1_3 ⟨a1_3, c1_3, B1_3, he_3, hf_3, ho1_3⟩
   refine ⟨_, _, he_3, hw1_3.fresh hf_3, ?_⟩
   refine Z404 ?_
   refine Z174 ?_
   refine JL_append (([] : List (Tenant × TA)) ++ (l.take at_1)) rfl TY_52 Tryz.underlying26 eTenant_ok ho1_3 q0 ((SlJ.of_base h_l).take at_1) ⟨by first | omega | (simp only [List.length_append, List.length_nil, List.length_take, List.length_drop, List.length_cons]; omega), by first | omega | (simp only [List.length_append, List.length_nil, List.length_take, List.length_drop, List.length_cons]; omega)⟩ (n := ([] : List (Tenant × TA)).length) (m := (l.take at_1).length) (k := fun ax4 cx4 Bx4 hox4 => ?_)
   have hal4 : (([] : List (Tenant × TA)) ++ (l.take at_1)).length = ([] : List (Tenant × TA)).length + (l.take at_1).length := by first | rfl | exact List.length_append | simp
   refine Z405 ?_
   refine Z131 ?_
   refine Z174 ?_
   refine JL_append ((([] : List (Tenant × TA)) ++ (l.take at_1)) ++ ([x] : List (Tenant × TA))) rfl TY_52 Tryz.underlying26 eTenant_ok hox4 q0 (SlJ.lit (xs := ([x] : List (Tenant × TA))) eTenant_ok) ⟨by first | omega | (simp only [List.length_append, List.length_nil, List.length_take, List.length_drop, List.length_cons]; omega), by first | omega | (simp only [List.length_append, List.length_nil, List.length_take, List.length_drop, List.length_cons]; omega)⟩ (n := (([] : List (Tenant × TA)) ++ (l.take at_1)).length) (m := 1) (k := fun ax5 cx5 Bx5 hox5 => ?_)
   have hal5 : ((([] : List (Tenant × TA)) ++ (l.take at_1)) ++ ([x] : List (Tenant × TA))).length = (([] : List (Tenant × TA)) ++ (l.take at_1)).length + 1 := by first | rfl | exact List.length_append | simp
   refine Z405 ?_
   refine Z132 ?_
   refine Z174 ?_
   refine JL_append (((([] : List (Tenant × TA)) ++ (l.take at_1)) ++ ([x] : List (Tenant × TA))) ++ (l.drop at_1)) rfl TY_52 Tryz.underlying26 eTenant_ok hox5 q0 (SlJ.off (SlJ.of_base h_l) at_1 l_c (by first | omega | exact Nat.le_refl _)) ⟨by first | omega | (simp only [List.length_append, List.length_nil, List.length_take, List.length_drop, List.length_cons]; omega), by first | omega | (simp only [List.length_append, List.length_nil, List.length_take, List.length_drop, List.length_cons]; omega)⟩ (n := ((([] : List (Tenant × TA)) ++ (l.take at_1)) ++ ([x] : List (Tenant × TA))).length) (m := (l.drop at_1).length) (k := fun ax6 cx6 Bx6 hox6 => ?_)
   have hal6 : (((([] : List (Tenant × TA)) ++ (l.take at_1)) ++ ([x] : List (Tenant × TA))) ++ (l.drop at_1)).length = ((([] : List (Tenant × TA)) ++ (l.take at_1)) ++ ([x] : List (Tenant × TA))).length + (l.drop at_1).length := by first | rfl | exact List.length_append | simp
   refine Z318 ?_
   refine Z134 ?_
   refine Z353 ?_
   refine Z6 ?_
   refine Z112 ?_
   refine Z246 ?_
   refine Z392 ?_
   refine Z143 ?_
   refine JX_ret Tryz.results51 (Res.agg Tryz.isAgg28 Tryz.sizeOf28 rfl me rfl Res.nil) (fun w1 hw1 => ?_)
   exact ⟨ax6, cx6, Bx6, (by rw [((((((hF.rn1 ((hF3.pos hq1).neg hq2)).pos hq4).neg hq5).neg hq12).neg hq13).neg hq14).eq] <;> first | rfl | (simp only [List.length_set] <;> rfl)), (fresh_segs (L := Bx6) (hw1.perm (List.Perm.refl _)) rfl), (by rw [((((((hF.rn1 ((hF3.pos hq1).neg hq2)).pos hq4).neg hq5).neg hq12).neg hq13).neg hq14).eq]; exact hox6)⟩
  refine Z117 ?_
  have hld6 : ((l.drop at_1).drop 1).length = (l.drop at_1).length - 1 := List.length_drop
  refine Z204 ?_
  refine Z352 ?_
  refine Z62 ?_
  have hl7 : (l.take at_1).length = at_1 := by rw [List.length_take]; omega
  refine Z447 ?_
  refine JD_a noMk (a_bslice (l := [_, _, _, _, _, _, _, _]) Tryz.runUnderlying26 Tryz.sizeOf52 Tryz.zeroValue52) (k := fun r4 hr4 => ?_)
  refine JD_a noMk (a_bslice (l := [_, _, _]) Tryz.runUnderlying182 Tryz.sizeOf26 Tryz.zeroValue26) (k := fun r5 hr5 => ?_)
  refine Z234 ?_
  refine Z404 ?_
  refine Z304 ?_
  refine J_dec rfl (fun hq8 => ?_) (fun hq8 => ?_)
  ·exfalso
   omega
  refine Z100 ?_
  refine Z131 ?_
  refine Z304 ?_
  refine J_dec rfl (fun hq9 => ?_) (fun hq9 => ?_)
  ·exfalso
   omega
  refine Z100 ?_
  refine Z132 ?_
  refine Z304 ?_
  refine J_dec rfl (fun hq10 => ?_) (fun hq10 => ?_)
  ·exfalso
   omega
  refine Z250 ?_
  refine Z365 ?_
  rintro w1_2 e1_2 w2_2 hw1_2 ⟨a1_2, c1_2, B1_2, he_2, hf_2, ho1_2⟩
  refine ⟨_, _, he_2, hw1_2.fresh hf_2, ?_⟩
  refine Z404 ?_
  refine Z174 ?_
  refine JL_append (([] : List (Tenant × TA)) ++ (l.take at_1)) rfl TY_52 Tryz.underlying26 eTenant_ok ho1_2 q0 ((SlJ.of_base h_l).take at_1) ⟨by first | omega | (simp only [List.length_append, List.length_nil, List.length_take, List.length_drop, List.length_cons]; omega), by first | omega | (simp only [List.length_append, List.length_nil, List.length_take, List.length_drop, List.length_cons]; omega)⟩ (n := ([] : List (Tenant × TA)).length) (m := (l.take at_1).length) (k := fun ax1 cx1 Bx1 hox1 => ?_)
  have hal1 : (([] : List (Tenant × TA)) ++ (l.take at_1)).length = ([] : List (Tenant × TA)).length + (l.take at_1).length := by first | rfl | exact List.length_append | simp
  refine Z405 ?_
  refine Z131 ?_
  refine Z174 ?_
  refine JL_append ((([] : List (Tenant × TA)) ++ (l.take at_1)) ++ ([x] : List (Tenant × TA))) rfl TY_52 Tryz.underlying26 eTenant_ok hox1 q0 (SlJ.lit (xs := ([x] : List (Tenant × TA))) eTenant_ok) ⟨by first | omega | (simp only [List.length_append, List.length_nil, List.length_take, List.length_drop, List.length_cons]; omega), by first | omega | (simp only [List.length_append, List.length_nil, List.length_take, List.length_drop, List.length_cons]; omega)⟩ (n := (([] : List (Tenant × TA)) ++ (l.take at_1)).length) (m := 1) (k := fun ax2 cx2 Bx2 hox2 => ?_)
  have hal2 : ((([] : List (Tenant × TA)) ++ (l.take at_1)) ++ ([x] : List (Tenant × TA))).length = (([] : List (Tenant × TA)) ++ (l.take at_1)).length + 1 := by first | rfl | exact List.length_append | simp
  refine Z405 ?_
  refine Z132 ?_
  refine Z174 ?_
  refine JL_append (((([] : List (Tenant × TA)) ++ (l.take at_1)) ++ ([x] : List (Tenant × TA))) ++ ((l.drop at_1).drop 1)) rfl TY_52 Tryz.underlying26 eTenant_ok hox2 q0 (SlJ.off (SlJ.off (SlJ.of_base h_l) at_1 l_c (by first | omega | exact Nat.le_refl _)) 1 (l_c - at_1) (by first | omega | exact Nat.le_refl _)) ⟨by first | omega | (simp only [List.length_append, List.length_nil, List.length_take, List.length_drop, List.length_cons]; omega), by first | omega | (simp only [List.length_append, List.length_nil, List.length_take, List.length_drop, List.length_cons]; omega)⟩ (n := ((([] : List (Tenant × TA)) ++ (l.take at_1)) ++ ([x] : List (Tenant × TA))).length) (m := ((l.drop at_1).drop 1).length) (k := fun ax3 cx3 Bx3 hox3 => ?_)
  have hal3 : (((([] : List (Tenant × TA)) ++ (l.take at_1)) ++ ([x] : List (Tenant × TA))) ++ ((l.drop at_1).drop 1)).length = ((([] : List (Tenant × TA)) ++ (l.take at_1)) ++ ([x] : List (Tenant × TA))).length + ((l.drop at_1).drop 1).length := by first | rfl | exact List.length_append | simp
  refine Z318 ?_
  refine Z134 ?_
  refine Z353 ?_
  refine Z6 ?_
  refine Z112 ?_
  refine Z246 ?_
  refine Z392 ?_
  refine Z143 ?_
  refine JX_ret Tryz.results51 (Res.agg Tryz.isAgg28 Tryz.sizeOf28 rfl me rfl Res.nil) (fun w1 hw1 => ?_)
  exact ⟨ax3, cx3, Bx3, (by rw [((((((hF.rn1 ((hF3.pos hq1).neg hq2)).pos hq4).pos hq5).neg hq8).neg hq9).neg hq10).eq] <;> first | rfl | (simp only [List.length_set] <;> rfl)), (fresh_segs (L := Bx3) (hw1.perm (List.Perm.refl _)) rfl), (by rw [((((((hF.rn1 ((hF3.pos hq1).neg hq2)).pos hq4).pos hq5).neg hq8).neg hq9).neg hq10).eq]; exact hox3)⟩

end Go.Proofs.YtopjaeoklkpcpaaGreatDoor.Jd

namespace Go.Proofs.YtopjaeoklkpcpaaGreatDoor.Jd
set_option linter.unusedVariables false
set_option linter.unusedSimpArgs false
set_option maxRecDepth 10000
theorem roVerbs_3 : roVerbs 3 = [1, 2, 3, 4, 5, 6, 7, 8, 9, 10] := by decide
theorem roVerbs_2 : roVerbs 2 = [2, 3, 4, 8, 9, 10] := by decide
theorem roVerbs_1 : roVerbs 1 = [9, 10] := by decide
theorem roVerbs_0 {n : Int} (h3 : n ≠ 3) (h2 : n ≠ 2) (h1 : n ≠ 1) : roVerbs n = [] := by
  have : roSets n = 0 := by unfold roSets; rw [if_neg h3, if_neg h2, if_neg h1]
  unfold roVerbs
  rw [this]
  decide
theorem roMay_l0_iff (n v : Int) : ∀ f i, (roVerbs n).length < i + f → i ≤ (roVerbs n).length → (outc1 (roMay_l0 n v f i) (fun r => r) (fun _ => false) = true ↔ v ∈ (roVerbs n).drop i)
  | 0, i, h1, h2 => by omega
  | f + 1, i, h1, h2 => by
    unfold roMay_l0
    by_cases hi : i < (roVerbs n).length
    · rw [if_pos (by omega), drop_cons' hi]
      by_cases hv : (roVerbs n).getD i default = v
      · rw [if_pos hv, hv]; simp [outc1]
      · rw [if_neg hv, roMay_l0_iff n v f (i + 1) (by omega) (by omega), List.mem_cons]
        exact ⟨.inr, fun h => h.resolve_left fun e => hv e.symm⟩
    · rw [if_neg (by omega), List.drop_eq_nil_of_le (by omega)]; simp [outc1]
theorem roMay_iff (n v : Int) : roMay n v = true ↔ v ∈ roVerbs n := roMay_l0_iff n v _ 0 (by omega) (by omega)
theorem roMay_t {n v : Int} (h : roMay n v = true) : 1 ≤ v ∧ v ≤ 10 := by
  rw [roMay_iff] at h
  by_cases h3 : n = 3
  · subst h3; rw [roVerbs_3] at h; simp at h; omega
  by_cases h2 : n = 2
  · subst h2; rw [roVerbs_2] at h; simp at h; omega
  by_cases h1 : n = 1
  · subst h1; rw [roVerbs_1] at h; simp at h; omega
  rw [roVerbs_0 h3 h2 h1] at h; cases h
/-- What must be of a tenant in a registry of a Seq. -/
structure TenOk (seq : Int) (t : Tenant) : Prop where
  name : gIsName t.name = true
  version : 1 ≤ t.version ∧ t.version ≤ seq
  state : 1 ≤ t.state ∧ t.state ≤ 3
  deadline : 0 ≤ t.deadline ∧ t.deadline ≤ 1000000000000
  drains : t.deadline = 0 ∨ t.state = 3
  rules : aclRight t.rules = true
  creds : cRight t.creds = true
/-- Which registries are right. -/
structure RightR (r : Registry) : Prop where
  slots : sRight r.slots = true
  seq : 0 ≤ r.seq ∧ r.seq ≤ 1000000000000
  hs : r.l.map Tenant.handle = sAll r.slots
  names : (r.l.map Tenant.name).Nodup
  ok : ∀ t ∈ r.l, TenOk r.seq t
theorem tenOk_iff {seq : Int} {t : Tenant} : TenOk seq t ↔ gIsCounted (t, seq) = true ∧ gIsInState (t, seq) = true ∧ gIsWhole (t, seq) = true := by
  unfold gIsCounted gIsInState gIsWhole
  constructor
  · rintro ⟨h1, h2, h3, h4, h5, h6, h7⟩
    refine ⟨?_, ?_, ?_⟩
    · rw [if_pos h2.1]; simpa using h2.2
    · simp only [h3.1, h3.2, h4.1, h4.2, if_true]
      split
      · rfl
      · simpa using h5.resolve_left (by assumption)
    · simp only [h1, h6, h7, if_true]
  · rintro ⟨h1, h2, h3⟩
    simp only at h1 h2 h3
    have a1 : 1 ≤ t.version ∧ t.version ≤ seq := by
      split at h1
      · exact ⟨by assumption, by simpa using h1⟩
      · cases h1
    have a2 : (1 ≤ t.state ∧ t.state ≤ 3) ∧ (0 ≤ t.deadline ∧ t.deadline ≤ 1000000000000) ∧ (t.deadline = 0 ∨ t.state = 3) := by
      repeat' split at h2
      all_goals first | (cases h2; done) | skip
      · exact ⟨⟨by assumption, by assumption⟩, ⟨by assumption, by assumption⟩, .inl (by assumption)⟩
      · exact ⟨⟨by assumption, by assumption⟩, ⟨by assumption, by assumption⟩, .inr (by simpa using h2)⟩
    have a3 : gIsName t.name = true ∧ aclRight t.rules = true ∧ cRight t.creds = true := by
      repeat' split at h3
      all_goals first | (cases h3; done) | skip
      exact ⟨by assumption, by assumption, h3⟩
    exact ⟨a3.1, a1, a2.1, a2.2.1, a2.2.2, a3.2.1, a3.2.2⟩
theorem gRight_l0_iff (r : Registry) : ∀ n i (acc : List Str), r.l.length < i + n → i ≤ r.l.length → (outc2 (gRight_l0 r n i acc) (fun r => r) (fun _ _ => true) = true ↔ (∀ k, i ≤ k → k < r.l.length → (r.l.getD k default).handle = (sAll r.slots).getD k default ∧ TenOk r.seq (r.l.getD k default)) ∧ (∀ t ∈ r.l.drop i, t.name ∉ acc) ∧ ((r.l.drop i).map Tenant.name).Nodup)
  | 0, i, acc, h1, h2 => by omega
  | n + 1, i, acc, h1, h2 => by
    unfold gRight_l0
    by_cases hi : i < r.l.length
    · rw [if_pos (by omega), drop_cons' hi]
      generalize ht : r.l.getD i default = t
      generalize hh : (sAll r.slots).getD i default = h
      have hbad : ¬ (t.handle = h ∧ TenOk r.seq t) → ¬ (∀ k, i ≤ k → k < r.l.length → (r.l.getD k default).handle = (sAll r.slots).getD k default ∧ TenOk r.seq (r.l.getD k default)) := fun hn ha => hn (by
        have := ha i (Nat.le_refl _) hi
        rwa [ht, hh] at this)
      by_cases hs : t.handle.slot = h.slot ∧ t.handle.gen = h.gen
      · have he : t.handle = h := by
          obtain ⟨e1, e2⟩ := hs
          cases hth : t.handle; cases h; simp_all
        rw [if_neg (by simpa using hs)]
        by_cases hm : t.name ∈ acc
        · rw [if_pos hm]
          simp only [outc2]
          exact ⟨nofun, fun ⟨_, h3, _⟩ => absurd hm (h3 t List.mem_cons_self)⟩
        · rw [if_neg hm]
          by_cases hT : TenOk r.seq t
          · obtain ⟨c1, c2, c3⟩ := tenOk_iff.1 hT
            rw [c1, c2, c3]
            simp only [Bool.not_true, Bool.false_eq_true, if_false]
            rw [gRight_l0_iff r n (i + 1) _ (by omega) (by omega), List.map_cons, List.nodup_cons]
            constructor
            · rintro ⟨g1, g2, g3⟩
              refine ⟨fun k hk hl => ?_, fun u hu => ?_, ?_, g3⟩
              · by_cases e : k = i
                · subst e; rw [ht, hh]; exact ⟨he, hT⟩
                · exact g1 k (by omega) hl
              · rcases List.mem_cons.1 hu with rfl | hu
                · exact hm
                · exact fun hc => g2 u hu (List.mem_append_left _ hc)
              · intro hc
                obtain ⟨u, hu, e⟩ := List.mem_map.1 hc
                exact g2 u hu (List.mem_append_right _ (by simp [e]))
            · rintro ⟨g1, g2, g3, g4⟩
              refine ⟨fun k hk hl => g1 k (by omega) hl, fun u hu hc => ?_, g4⟩
              rcases List.mem_append.1 hc with hc | hc
              · exact g2 u (List.mem_cons_of_mem _ hu) hc
              · exact g3 (List.mem_map.2 ⟨u, hu, by simpa using hc⟩)
          · have hb := hbad fun h => hT h.2
            have hx : ¬ (gIsCounted (t, r.seq) = true ∧ gIsInState (t, r.seq) = true ∧ gIsWhole (t, r.seq) = true) := fun h => hT (tenOk_iff.2 h)
            cases c1 : gIsCounted (t, r.seq)
            · simp only [Bool.not_false, if_true, outc2]; exact ⟨nofun, fun h => absurd h.1 hb⟩
            cases c2 : gIsInState (t, r.seq)
            · simp only [Bool.not_false, Bool.not_true, Bool.false_eq_true, if_true, if_false, outc2]; exact ⟨nofun, fun h => absurd h.1 hb⟩
            cases c3 : gIsWhole (t, r.seq)
            · simp only [Bool.not_false, Bool.not_true, Bool.false_eq_true, if_true, if_false, outc2]; exact ⟨nofun, fun h => absurd h.1 hb⟩
            exact absurd ⟨c1, c2, c3⟩ hx
      · rw [if_pos (by simpa using hs)]
        simp only [outc2]
        exact ⟨nofun, fun hc => absurd hc.1 (hbad fun h2 => hs (by rw [h2.1]; exact ⟨rfl, rfl⟩))⟩
    · rw [if_neg (by omega), List.drop_eq_nil_of_le (by omega)]
      simp only [outc2, List.map_nil, List.nodup_nil, and_true, List.not_mem_nil, false_implies, implies_true, true_and]
      exact ⟨fun _ k h3 h4 => by omega, fun _ => trivial⟩
theorem map_eq_of {α β : Type} [Inhabited α] [Inhabited β] {f : α → β} {xs : List α} {ys : List β} (hl : ys.length = xs.length) : (∀ k, k < xs.length → f (xs.getD k default) = ys.getD k default) ↔ xs.map f = ys := by
  constructor
  · intro h
    refine List.ext_getElem (by simp [hl]) fun k h1 h2 => ?_
    have := h k (by simpa using h1)
    simpa [List.getD, show k < xs.length by simpa using h1, h2] using this
  · rintro rfl k hk
    simp [List.getD, hk]
theorem gRight_iff {r : Registry} : gRight r = true ↔ RightR r := by
  unfold gRight
  constructor
  · intro h
    split at h
    · cases h
    rename_i h1
    split at h
    · cases h
    split at h
    · cases h
    split at h
    · cases h
    rename_i h2 h3 h4
    obtain ⟨g1, _, g3⟩ := (gRight_l0_iff r _ 0 [] (by omega) (by omega)).1 h
    refine ⟨by simpa using h1, ⟨by omega, by omega⟩, (map_eq_of (by omega)).1 fun k hk => (g1 k (by omega) hk).1, by simpa using g3, fun t ht => ?_⟩
    obtain ⟨k, hk, rfl⟩ := List.getElem_of_mem ht
    have := (g1 k (by omega) hk).2
    simpa [List.getD, hk] using this
  · rintro ⟨h1, h2, h3, h4, h5⟩
    have hl : (sAll r.slots).length = r.l.length := by rw [← h3]; simp
    rw [h1, if_neg (by simp), if_neg (by omega), if_neg (by omega), if_neg (by omega)]
    refine (gRight_l0_iff r _ 0 [] (by omega) (by omega)).2 ⟨fun k _ hk => ⟨(map_eq_of hl).2 h3 k hk, ?_⟩, fun t _ => by simp, by simpa using h4⟩
    refine h5 _ ?_
    rw [List.getD_eq_getElem?_getD, List.getElem?_eq_getElem hk]; exact List.getElem_mem hk
theorem gRight_t {r : Registry} (h : gRight r = true) : r.l.length ≤ 64 ∧ r.slots.gens.length ≤ 64 ∧ r.slots.used.length ≤ 64 ∧ r.slots.free.length ≤ 64 ∧ 0 ≤ r.seq ∧ r.seq ≤ 1000000000000 := by
  have h' := gRight_iff.1 h
  have e := congrArg List.length h'.hs
  rw [List.length_map] at e
  have := sAll_len r.slots
  have h3 := sRight_t h'.slots
  exact ⟨by omega, by omega, by omega, by omega, h'.seq⟩
theorem gRight_at {r : Registry} (h : gRight r = true) {i : Nat} (hi : i < r.l.length) : TenOk r.seq (r.l.getD i default) := by
  refine (gRight_iff.1 h).ok _ ?_
  rw [List.getD_eq_getElem?_getD, List.getElem?_eq_getElem hi]; exact List.getElem_mem hi
theorem gRight_ver {r : Registry} (h : gRight r = true) {i : Nat} (hi : i < r.l.length) : 1 ≤ (r.l.getD i default).version ∧ (r.l.getD i default).version ≤ r.seq := (gRight_at h hi).version
end Go.Proofs.YtopjaeoklkpcpaaGreatDoor.Jd

namespace Go.Proofs.YtopjaeoklkpcpaaGreatDoor.Jd
open Go.Proofs
open Go.RowKit (Below)
set_option maxRecDepth 100000
set_option maxHeartbeats 8000000
set_option linter.unusedVariables false
set_option linter.unusedSimpArgs false
theorem FO_36_0 : FieldOff Tryz.prog 36 0 0 := fun r k w => by simp [Instr.fieldAt, Instr.sureAddr, fieldPlace, addr_add]
theorem FO_36_1 : FieldOff Tryz.prog 36 1 1 := fun r k w => by simp [Instr.fieldAt, Instr.sureAddr, fieldPlace, addr_add]
theorem FO_36_2 : FieldOff Tryz.prog 36 2 2 := fun r k w => by simp [Instr.fieldAt, Instr.sureAddr, fieldPlace, addr_add]
theorem FO_36_3 : FieldOff Tryz.prog 36 3 3 := fun r k w => by simp [Instr.fieldAt, Instr.sureAddr, fieldPlace, addr_add]
theorem FO_36_4 : FieldOff Tryz.prog 36 4 4 := fun r k w => by simp [Instr.fieldAt, Instr.sureAddr, fieldPlace, addr_add]
theorem FO_36_5 : FieldOff Tryz.prog 36 5 9 := fun r k w => by simp [Instr.fieldAt, Instr.sureAddr, fieldPlace, addr_add]
theorem FO_36_6 : FieldOff Tryz.prog 36 6 10 := fun r k w => by simp [Instr.fieldAt, Instr.sureAddr, fieldPlace, addr_add]
theorem FO_36_7 : FieldOff Tryz.prog 36 7 11 := fun r k w => by simp [Instr.fieldAt, Instr.sureAddr, fieldPlace, addr_add]
theorem FO_44_0 : FieldOff Tryz.prog 44 0 0 := fun r k w => by simp [Instr.fieldAt, Instr.sureAddr, fieldPlace, addr_add]
theorem FO_97_0 : FieldOff Tryz.prog 97 0 0 := fun r k w => by simp [Instr.fieldAt, Instr.sureAddr, fieldPlace, addr_add]
theorem FO_97_1 : FieldOff Tryz.prog 97 1 9 := fun r k w => by simp [Instr.fieldAt, Instr.sureAddr, fieldPlace, addr_add]
theorem FO_97_2 : FieldOff Tryz.prog 97 2 21 := fun r k w => by simp [Instr.fieldAt, Instr.sureAddr, fieldPlace, addr_add]
theorem PL_44 : Places Tryz.prog 44 [(0, 1), (1, 1), (2, 2), (4, 1), (5, 1)] := ⟨_, fun w => Tryz.runUnderlying44 w, fun w => by simp⟩
theorem PL_97 : Places Tryz.prog 97 [(0, 9), (9, 12), (21, 1)] := ⟨_, fun w => Tryz.runUnderlying97 w, fun w => by simp⟩
theorem PL_120 : Places Tryz.prog 120 [(0, 1)] := ⟨_, fun w => Tryz.runUnderlying120 w, fun w => by simp⟩

theorem putN_ok (w : World) {s0a : Option Addr} {s0n : Nat} {s0c : Nat} {s1a : Option Addr} {s1n : Nat} {s1c : Nat} {s2a : Option Addr} {s2n : Nat} {s2c : Nat} {q_ : Int} {l_a : Option Addr} {l_c : Nat} {xs : List Tenant} {ts : List TA} {x : Tenant} {v : TA} (h : SlN w eTenant 8 DT l_a xs ts) (n : xs.length ≤ 1000) (k : xs.length ≤ l_c) :
  Calls Tryz.prog 51 (List.toArray [(Value.agg [(vs s0a s0n s0c), (vs s1a s1n s1c), (vs s2a s2n s2c), (vs l_a xs.length l_c), (vi q_)].toArray), (Value.agg [(vi x.handle.slot), (vi x.handle.gen), (vt x.name), (vi x.state), (vi x.version), (vs v.ra x.rules.length v.rc), (vs v.ca x.creds.length v.cc), (vi x.deadline)].toArray)]) w fun e w2 => ∃ a1 : Option Addr, ∃ c1 : Nat, ∃ B1 : Heap, e = .returned (Value.agg [(vs s0a s0n s0c), (vs s1a s1n s1c), (vs s2a s2n s2c), (vs a1 (putX xs x).length c1), (vi q_)].toArray) ∧ Fresh w w2 B1 ∧ OwnB eTenant 8 52 a1 c1 B1 (List.zip (putX xs x) (putT xs ts x v)) := by
 have hz := zip_len h.1
 have h2 := gPut_ok w (s0a := s0a) (s0n := s0n) (s0c := s0c) (s1a := s1a) (s1n := s1n) (s1c := s1c) (s2a := s2a) (s2n := s2n) (s2c := s2c) (q_ := q_) (l_a := l_a) (l_c := l_c) (l := List.zip xs ts) (x := (x, v)) h.2.1 (by rw [hz]; exact n) (by rw [hz]; exact k)
 rw [hz, gPut_zip x v h.1, zip_len (putT_length xs ts x v h.1)] at h2
 exact h2
theorem cloneN_ok (w : World) {a : Option Addr} {c : Nat} {xs : List Tenant} {ts : List TA} (h : SlN w eTenant 8 DT a xs ts) (n : xs.length ≤ 1000) :
  Calls Tryz.prog 115 (List.toArray [(vs a xs.length c)]) w fun e w2 => ∃ a1 : Option Addr, ∃ c1 : Nat, ∃ B1 : Heap, e = .returned (vs a1 xs.length c1) ∧ Fresh w w2 B1 ∧ OwnB eTenant 8 52 a1 c1 B1 (List.zip xs ts) := by
 have hz := zip_len h.1
 have h2 := tnClone_ok w (s_a := a) (s_c := c) (s := List.zip xs ts) h.2.1 (by rw [hz]; omega)
 rw [hz] at h2
 exact h2
theorem delN_ok (w : World) {a : Option Addr} {c : Nat} {B : Heap} {xs : List Tenant} {ts : List TA} {i j : Int} (ho : OwnB eTenant 8 52 a c B (List.zip xs ts)) (hb : ∀ p ∈ B, w.heap[p.1]? = some p.2) (hl : ts.length = xs.length) (n : xs.length ≤ 1000) (hi : 0 ≤ i ∧ i < j ∧ j ≤ xs.length) :
  Calls Tryz.prog 114 (List.toArray [(vs a xs.length c), (vi i), (vi j)]) w fun e w2 => ∃ a1 : Option Addr, ∃ c1 : Nat, ∃ B1 : Heap, e = .returned (vs a1 (delL xs i.toNat j.toNat).length c1) ∧ Tr w w2 B B1 ∧ OwnB eTenant 8 52 a1 c1 B1 (List.zip (delL xs i.toNat j.toNat) (delL ts i.toNat j.toNat)) := by
 have hz := zip_len hl
 have h2 := tnDelete_ok w (s_a := a) (s_c := c) (s_B := B) (s := List.zip xs ts) (i := i) (j := j) ho hb (by rw [hz]; omega) (by rw [hz]; exact hi)
 have hd : (delL ts i.toNat j.toNat).length = (delL xs i.toNat j.toNat).length := by rw [delL_length (by omega) (by omega), delL_length (by omega) (by omega), hl]
 rw [hz, delL_zip hl, zip_len hd] at h2
 exact h2

end Go.Proofs.YtopjaeoklkpcpaaGreatDoor.Jd

namespace Go.Proofs.YtopjaeoklkpcpaaGreatDoor.Jd
open Go.Proofs
open Go.RowKit (Below)
set_option maxRecDepth 100000
set_option maxHeartbeats 8000000
set_option linter.unusedVariables false
set_option linter.unusedSimpArgs false

theorem lFew8_ok (w : World) {l_a : Option Addr} {l_c : Nat} {l : List Rule} (h_l : Sl w eRule 5 l_a l) (k_l : l.length ≤ l_c) : Calls Tryz.prog 37 (List.toArray [(vs l_a l.length l_c)]) w fun e w2 => ∃ a1 : Option Addr, ∃ c1 : Nat, ∃ B1 : Heap, e = .returned (vs a1 ((lFew8 l).length) c1) ∧ Fresh w w2 B1 ∧ OwnB eRule 5 34 a1 c1 B1 (lFew8 l) ∧ (lFew8 l).length ≤ 18 := by
 have hF := Is.refl (lFew8 l)
 refine enter Tryz.func37 Tryz.ntmps37 (h := ?_)
 refine Z2 ?_
 refine Z276 ?_
 refine Z501 ?_
 refine JL_q q_min (k := ?_)
 have hl1 : (l.take (min l.length 18)).length = (min l.length 18) := by rw [List.length_take]; first | (split <;> omega) | omega
 refine JL_q (q_sliceHi' (l.take (min l.length 18)).length Tryz.runUnderlying49 (fun w => ⟨_, Tryz.sizeOf34 w⟩) (hm := by omega) (hi := by first | (split <;> omega) | omega)) (k := ?_)
 refine JL_append (l.take (min l.length 18)) (List.nil_append _) TY_34 Tryz.underlying49 eRule_ok OwnB.nil (List.Perm.refl _) ((SlJ.of_base h_l).take (min l.length 18)) ⟨by omega, by omega⟩ (n := 0) (m := (l.take (min l.length 18)).length) (k := fun ax1 cx1 Bx1 hox1 => ?_)
 refine Z6 ?_
 refine JX_ret Tryz.results37 (Res.tmp rfl Res.nil) (fun w1 hw1 => ?_)
 exact ⟨ax1, cx1, Bx1, (by rw [hF.eq] <;> first | rfl | (simp only [List.length_set] <;> rfl)), (fresh_segs (L := Bx1) (hw1.perm (List.Perm.refl _)) rfl.symm), (by unfold lFew8; exact hox1), (by unfold lFew8; rw [List.length_take]; omega)⟩

theorem cFew_ok (w : World) {l_a : Option Addr} {l_c : Nat} {l : List Cred} (h_l : Sl w eCred 4 l_a l) : Calls Tryz.prog 38 (List.toArray [(vs l_a l.length l_c)]) w fun e w2 => ∃ a1 : Option Addr, ∃ c1 : Nat, ∃ B1 : Heap, e = .returned (vs a1 ((cFew l).length) c1) ∧ Fresh w w2 B1 ∧ OwnB eCred 4 62 a1 c1 B1 (cFew l) ∧ (cFew l).length ≤ 6 := by
 have hF := Is.refl (cFew l)
 refine enter Tryz.func38 Tryz.ntmps38 (h := ?_)
 refine Z195 ?_
 refine Z427 ?_
 refine Z1 ?_
 refine J_block ?_
 refine J_loop6 (σ1 := Nat) (σ2 := List Cred) (σ3 := Option Addr) (σ4 := Nat) (σ5 := Heap) (σ6 := Nat) (fun n_3 out_1 out_1a out_1c out_1B i_2 => (out_1B ++ [])) (fun n_3 out_1 out_1a out_1c out_1B i_2 => [(0, (vs l_a l.length l_c)), (2, (vs none 0 0)), (3, (vs out_1a out_1.length out_1c)), (4, (vi ((i_2 : Nat) : Int)))]) (fun n_3 out_1 out_1a out_1c out_1B i_2 => 6 - i_2 < n_3 ∧ Is (cFew_l0 l (6 + 1) [] 0) (cFew_l0 l n_3 out_1 i_2) ∧ OwnB eCred 4 62 out_1a out_1c out_1B out_1 ∧ out_1.length ≤ i_2 ∧ i_2 ≤ 6 ∧ i_2 ≤ l.length) (fun n_3 out_1 out_1a out_1c out_1B i_2 => n_3) (6 + 1) ([]) none 0 ([]) 0 ?_ se (List.Perm.refl _) ?_
 ·exact ⟨Nat.lt_succ_self _, Is.refl _, OwnB.nil, (by first | omega | rfl | (simp; done)), (by first | omega | rfl | (simp; done)), (by first | omega | rfl | (simp; done))⟩
 ·rintro (_ | n_3) out_1 out_1a out_1c out_1B i_2 ⟨hm5, hF4, hout_1, hi6, hi7, hi8⟩
  ·omega
  refine J_seq ?_
  refine Z39 ?_
  refine Z508 ?_
  refine Z209 ?_
  refine JL_dec 10 rfl (fun hq1 => ?_) (fun hq1 => ?_)
  rotate_left
  ·refine JL_skips 2 rfl ?_
   refine Z98 ?_
   refine J_exit ?_
   refine Z353 ?_
   refine Z6 ?_
   refine JX_ret Tryz.results38 (Res.tmp rfl Res.nil) (fun w1 hw1 => ?_)
   exact ⟨out_1a, out_1c, out_1B, (by rw [(hF.rn2 (hF4.neg hq1)).eq] <;> first | rfl | (simp only [List.length_set] <;> rfl)), (fresh_segs (L := out_1B) (hw1.perm (List.Perm.refl _)) rfl.symm), (by rw [(hF.rn2 (hF4.neg hq1)).eq]; exact hout_1), (by rw [(hF.rn2 (hF4.neg hq1)).eq]; first | exact lb)⟩
  refine Z489 ?_
  refine JL_qg q_lss (k := ?_)
  refine JL_q q_pickT (k := ?_)
  refine Z0 ?_
  refine J_dec rfl (fun hq2 => ?_) (fun hq2 => ?_)
  rotate_left
  ·refine J_exit ?_
   refine Z353 ?_
   refine Z6 ?_
   refine JX_ret Tryz.results38 (Res.tmp rfl Res.nil) (fun w1 hw1 => ?_)
   exact ⟨out_1a, out_1c, out_1B, (by rw [(hF.rn2 ((hF4.pos hq1).neg hq2)).eq] <;> first | rfl | (simp only [List.length_set] <;> rfl)), (fresh_segs (L := out_1B) (hw1.perm (List.Perm.refl _)) rfl.symm), (by rw [(hF.rn2 ((hF4.pos hq1).neg hq2)).eq]; exact hout_1), (by rw [(hF.rn2 ((hF4.pos hq1).neg hq2)).eq]; first | exact lb)⟩
  refine Z460 ?_
  refine Z39 ?_
  refine JL_q (q_idx (n := l.length) Tryz.runUnderlying50 Tryz.sizeOf62 i_2 (SlJ.of_base h_l) (gD (by first | exact ix)) (by first | rfl | simp)) (k := ?_)
  refine JL_q (q_loadEA Tryz.isAgg62 Tryz.sizeOf62 i_2 (SlJ.of_base h_l) (gD (by first | exact ix))) (k := ?_)
  refine JL_a noMk (a_alloc (l := [_, _, _, _]) Tryz.zeroValue62) (k := fun r1 hr1 => ?_)
  refine Z377 ?_
  refine JL_q (q_fld FO_62_1) (k := ?_)
  refine Z506 ?_
  refine JL_q (q_fld FO_62_1) (k := ?_)
  refine Z506 ?_
  refine Z236 ?_
  refine JL_q (q_subThi (s := ((l.getD i_2 default).key)) (min ((l.getD i_2 default).key).length 65) Tryz.runUnderlying9 (by omega) (hj := by split <;> omega)) (k := ?_)
  have hsb2 : (((l.getD i_2 default).key).take (min ((l.getD i_2 default).key).length 65)).length = (min ((l.getD i_2 default).key).length 65) := by first | omega | (simp only [List.length_take, List.length_drop, List.length_cons, List.length_nil] <;> omega)
  refine JL_q (q_fld FO_62_1) (k := ?_)
  refine JL_s (w_store (l' := [_, _, _, _]) Tryz.sizeOf9) (k := ?_)
  refine Z0 ?_
  refine Z117 ?_
  refine Z509 ?_
  refine JL_a noMk (a_bslice (l := [_, _, _, _]) Tryz.runUnderlying50 Tryz.sizeOf62 Tryz.zeroValue62) (k := fun r2 hr2 => ?_)
  refine JL_append (out_1 ++ ([(Cred.mk ((l.getD i_2 default).id) (((l.getD i_2 default).key).take (min ((l.getD i_2 default).key).length 65)) ((l.getD i_2 default).frm) ((l.getD i_2 default).to))] : List Cred)) rfl TY_62 Tryz.underlying50 eCred_ok hout_1 (qb (qb q0)) (SlJ.lit (xs := ([(Cred.mk ((l.getD i_2 default).id) (((l.getD i_2 default).key).take (min ((l.getD i_2 default).key).length 65)) ((l.getD i_2 default).frm) ((l.getD i_2 default).to))] : List Cred)) eCred_ok) ⟨by omega, by omega⟩ (n := out_1.length) (m := 1) (k := fun ax1 cx1 Bx1 hox1 => ?_)
  have hal1 : (out_1 ++ ([(Cred.mk ((l.getD i_2 default).id) (((l.getD i_2 default).key).take (min ((l.getD i_2 default).key).length 65)) ((l.getD i_2 default).frm) ((l.getD i_2 default).to))] : List Cred)).length = out_1.length + 1 := by first | rfl | exact List.length_append | simp
  refine Z59 ?_
  refine Z17 ?_
  refine J_subL _ (sa (sd (sd sz))) ?_
  refine Z454 ?_
  refine Z59 ?_
  exact JX_inv6 n_3 (out_1 ++ ([(Cred.mk ((l.getD i_2 default).id) (((l.getD i_2 default).key).take (min ((l.getD i_2 default).key).length 65)) ((l.getD i_2 default).frm) ((l.getD i_2 default).to))] : List Cred)) ax1 cx1 Bx1 (i_2 + 1) ⟨by omega, ((hF4.pos hq1).pos hq2), hox1, (by omega), (by omega), (by omega)⟩ (Nat.lt_succ_self _) se (List.Perm.refl _)

end Go.Proofs.YtopjaeoklkpcpaaGreatDoor.Jd

namespace Go.Proofs.YtopjaeoklkpcpaaGreatDoor.Jd.SlT
open Go.Proofs
open Go.RowKit (Below)
set_option maxRecDepth 100000
set_option linter.unusedVariables false
set_option linter.unusedSimpArgs false
def badGen (n : Int) : Bool := decide (n < 0 ∨ 1000000000 < n)
def longD (gl : List Int) (ul : List Bool) : Bool := decide (1 ≤ gl.length ∧ gl.length ≤ 64 ∧ ul.length = gl.length)
theorem getD_lt {α : Type} [Inhabited α] {xs : List α} {k : Nat} (h : k < xs.length) : xs.getD k default = xs[k] := by simp [List.getD, h]
theorem take_succ' {α : Type} [Inhabited α] {xs : List α} {k : Nat} (h : k < xs.length) : xs.take (k + 1) = xs.take k ++ [xs.getD k default] := by
  rw [List.take_add_one, List.getElem?_eq_getElem h, getD_lt h]; rfl
def usedIx : Nat → List Bool → List Nat
  | _, [] => []
  | i, true :: r => i :: usedIx (i + 1) r
  | i, false :: r => usedIx (i + 1) r
def cntU (l : List Bool) : Nat := (usedIx 0 l).length
def freeD (ul : List Bool) (fl : List Int) : Prop := (∀ x ∈ fl, 0 ≤ x ∧ x < ul.length ∧ ul.getD x.toNat default = false) ∧ fl.Nodup
instance (ul : List Bool) (fl : List Int) : Decidable (freeD ul fl) := inferInstanceAs (Decidable (_ ∧ _))
def rightB (gl : List Int) (ul : List Bool) (fl : List Int) : Bool := longD gl ul && !(gl.any badGen) && decide (freeD ul fl ∧ (gl.length : Int) - (cntU ul : Int) = (fl.length : Int))
def hnd (gl : List Int) (ul : List Bool) : List (Int × Int) := (usedIx 0 ul).map fun i : Nat => ((i : Int), gl.getD i default)
def allD (gl : List Int) (ul : List Bool) (fl : List Int) : List (Int × Int) := if rightB gl ul fl then hnd gl ul else []
theorem all_no {gl : List Int} {ul : List Bool} {fl : List Int} (h : rightB gl ul fl = false) : allD gl ul fl = [] := by simp [allD, h]
abbrev Slots3 := List Int × List Bool × List Int
def lastI (fl : List Int) : Int := fl.getD ((fl.length : Int) - 1).toNat default
def takeD (gl : List Int) (ul : List Bool) (fl : List Int) : Slots3 × (Int × Int) × Int :=
  if rightB gl ul fl then
    if fl.length = 0 ∨ gl.getD (lastI fl).toNat default = 1000000000 then (([], [], []), (0, 0), 92)
    else ((gl.set (lastI fl).toNat (gl.getD (lastI fl).toNat default + 1), ul.set (lastI fl).toNat true, fl.take (fl.length - 1)), (lastI fl, gl.getD (lastI fl).toNat default + 1), 0)
  else (([], [], []), (0, 0), 90)
theorem take_no {gl : List Int} {ul : List Bool} {fl : List Int} (h : rightB gl ul fl = false) : takeD gl ul fl = (([], [], []), (0, 0), 90) := by simp [takeD, h]
theorem take_full {gl : List Int} {ul : List Bool} {fl : List Int} (h : rightB gl ul fl = true) (h1 : fl.length = 0 ∨ gl.getD (fl.getD ((fl.length : Int) - 1).toNat default).toNat default = 1000000000) : takeD gl ul fl = (([], [], []), (0, 0), 92) := by
  unfold takeD; rw [if_pos h]; exact if_pos h1
theorem take_yes {gl : List Int} {ul : List Bool} {fl : List Int} (h : rightB gl ul fl = true) (h1 : fl.length ≠ 0) (h2 : ¬ gl.getD (fl.getD ((fl.length : Int) - 1).toNat default).toNat default = 1000000000) :
    takeD gl ul fl = ((gl.set (lastI fl).toNat (gl.getD (lastI fl).toNat default + 1), ul.set (lastI fl).toNat true, fl.take (fl.length - 1)), (lastI fl, gl.getD (lastI fl).toNat default + 1), 0) := by
  unfold takeD; rw [if_pos h]; exact if_neg (fun hh => hh.elim h1 h2)
theorem rightB_iff {gl : List Int} {ul : List Bool} {fl : List Int} : rightB gl ul fl = true ↔ (1 ≤ gl.length ∧ gl.length ≤ 64 ∧ ul.length = gl.length) ∧ (∀ x ∈ gl, 0 ≤ x ∧ x ≤ 1000000000) ∧ freeD ul fl ∧ (gl.length : Int) - (cntU ul : Int) = (fl.length : Int) := by
  simp only [rightB, Bool.and_eq_true, longD, decide_eq_true_eq, Bool.not_eq_true', List.any_eq_false, badGen]
  constructor
  · rintro ⟨⟨h1, h2⟩, h3, h4⟩
    exact ⟨h1, fun x hx => by have := h2 x hx; omega, h3, h4⟩
  · rintro ⟨h1, h2, h3, h4⟩
    exact ⟨⟨h1, fun x hx => by have := h2 x hx; omega⟩, h3, h4⟩
theorem right_last {gl : List Int} {ul : List Bool} {fl : List Int} (h : rightB gl ul fl = true) (h1 : fl.length ≠ 0) :
    0 ≤ fl.getD ((fl.length : Int) - 1).toNat default ∧ fl.getD ((fl.length : Int) - 1).toNat default < gl.length ∧ gl.length = ul.length ∧ 0 ≤ gl.getD (fl.getD ((fl.length : Int) - 1).toNat default).toNat default ∧ gl.getD (fl.getD ((fl.length : Int) - 1).toNat default).toNat default ≤ 1000000000 := by
  obtain ⟨⟨g1, g2, g3⟩, h2, h3, _⟩ := rightB_iff.1 h
  have hlt : ((fl.length : Int) - 1).toNat < fl.length := by omega
  have hm : fl.getD ((fl.length : Int) - 1).toNat default ∈ fl := by rw [getD_lt hlt]; exact List.getElem_mem hlt
  obtain ⟨c1, c2, _⟩ := h3.1 _ hm
  have hlt2 : (fl.getD ((fl.length : Int) - 1).toNat default).toNat < gl.length := by omega
  have := h2 (gl.getD (fl.getD ((fl.length : Int) - 1).toNat default).toNat default) (by rw [getD_lt hlt2]; exact List.getElem_mem hlt2)
  exact ⟨c1, by omega, by omega, this⟩
theorem getD_set_self {xs : List Int} {m : Nat} {v : Int} (h : m < xs.length) : (xs.set m v).getD m default = v := by simp [List.getD, h]
def giveD (gl : List Int) (ul : List Bool) (fl : List Int) (h1 h2 : Int) : Slots3 × Int :=
  if rightB gl ul fl then if (h1, h2) ∈ allD gl ul fl then ((gl, ul.set h1.toNat false, fl ++ [h1]), 0) else (([], [], []), 91) else (([], [], []), 90)
theorem give_yes {gl : List Int} {ul : List Bool} {fl : List Int} {h1 h2 : Int} (h : rightB gl ul fl = true) (hv : (h1, h2) ∈ allD gl ul fl) : giveD gl ul fl h1 h2 = ((gl, ul.set h1.toNat false, fl ++ [h1]), 0) := by simp [giveD, h, hv]
theorem usedIx_mem : ∀ (l : List Bool) (i j : Nat), j ∈ usedIx i l ↔ i ≤ j ∧ l[j - i]? = some true
  | [], i, j => by simp [usedIx]
  | true :: r, i, j => by
    simp only [usedIx, List.mem_cons, usedIx_mem r]
    constructor
    · rintro (rfl | ⟨h1, h2⟩)
      · simp
      · refine ⟨by omega, ?_⟩
        rw [show j - i = (j - (i + 1)) + 1 by omega]; simpa using h2
    · rintro ⟨h1, h2⟩
      rcases Nat.eq_or_lt_of_le h1 with e | h3
      · exact .inl e.symm
      · refine .inr ⟨h3, ?_⟩
        rw [show j - i = (j - (i + 1)) + 1 by omega] at h2; simpa using h2
  | false :: r, i, j => by
    simp only [usedIx, usedIx_mem r]
    constructor
    · rintro ⟨h1, h2⟩
      refine ⟨by omega, ?_⟩
      rw [show j - i = (j - (i + 1)) + 1 by omega]; simpa using h2
    · rintro ⟨h1, h2⟩
      rcases Nat.eq_or_lt_of_le h1 with e | h3
      · subst e; simp at h2
      · refine ⟨h3, ?_⟩
        rw [show j - i = (j - (i + 1)) + 1 by omega] at h2; simpa using h2
theorem hnd_mem {gl : List Int} {ul : List Bool} {p q : Int} : (p, q) ∈ hnd gl ul ↔ 0 ≤ p ∧ ul[p.toNat]? = some true ∧ gl.getD p.toNat default = q := by
  simp only [hnd, List.mem_map, usedIx_mem, Prod.mk.injEq]
  constructor
  · rintro ⟨j, ⟨_, h2⟩, rfl, rfl⟩
    exact ⟨by omega, by simpa using h2, by simp⟩
  · rintro ⟨h1, h2, h3⟩
    exact ⟨p.toNat, ⟨Nat.zero_le _, by simpa using h2⟩, by omega, h3⟩
theorem usedIx_sorted : ∀ (l : List Bool) (i : Nat), (usedIx i l).Pairwise (· < ·)
  | [], _ => List.Pairwise.nil
  | true :: r, i => List.Pairwise.cons (fun j hj => by have := (usedIx_mem r (i + 1) j).1 hj; omega) (usedIx_sorted r (i + 1))
  | false :: r, i => usedIx_sorted r (i + 1)
theorem len_usedIx : ∀ (l : List Bool) (i : Nat), (usedIx i l).length = l.count true
  | [], _ => rfl
  | true :: r, i => by simp [usedIx, len_usedIx r (i + 1)]
  | false :: r, i => by simp [usedIx, len_usedIx r (i + 1)]
theorem cntU_eq (l : List Bool) : cntU l = l.count true := len_usedIx l 0
theorem count_set_true : ∀ (l : List Bool) (i : Nat), l[i]? = some false → (l.set i true).count true = l.count true + 1
  | [], _, h => by simp at h
  | b :: r, 0, h => by
    have : b = false := by simpa using h
    subst this; simp
  | b :: r, i + 1, h => by
    have := count_set_true r i (by simpa using h)
    cases b <;> simp [this]
theorem count_set_false : ∀ (l : List Bool) (i : Nat), l[i]? = some true → (l.set i false).count true + 1 = l.count true
  | [], _, h => by simp at h
  | b :: r, 0, h => by
    have : b = true := by simpa using h
    subst this; simp
  | b :: r, i + 1, h => by
    have := count_set_false r i (by simpa using h)
    cases b <;> simp <;> omega

/-- What taking gives. -/
structure TakeOk (gl : List Int) (ul : List Bool) (fl : List Int) (i : Nat) : Prop where
  right : rightB gl ul fl = true
  pos : fl.length ≠ 0
  last : lastI fl = (i : Int)
  lt : i < gl.length
  free : ul[i]? = some false
  gen : 0 ≤ gl.getD i default ∧ gl.getD i default < 1000000000
  eq : takeD gl ul fl = ((gl.set i (gl.getD i default + 1), ul.set i true, fl.take (fl.length - 1)), ((i : Int), gl.getD i default + 1), 0)

theorem take_cases (gl : List Int) (ul : List Bool) (fl : List Int) :
    (rightB gl ul fl = false ∧ takeD gl ul fl = (([], [], []), (0, 0), 90)) ∨ (rightB gl ul fl = true ∧ takeD gl ul fl = (([], [], []), (0, 0), 92)) ∨ ∃ i, TakeOk gl ul fl i := by
  cases hr : rightB gl ul fl with
  | false => exact .inl ⟨rfl, take_no hr⟩
  | true =>
    by_cases hf : fl.length = 0 ∨ gl.getD (fl.getD ((fl.length : Int) - 1).toNat default).toNat default = 1000000000
    · exact .inr (.inl ⟨rfl, take_full hr hf⟩)
    · rw [not_or] at hf
      have h1 := right_last hr hf.1
      obtain ⟨c1, c2, c3, c4, c5⟩ := h1
      refine .inr (.inr ⟨(lastI fl).toNat, hr, hf.1, ?_, ?_, ?_, ?_, ?_⟩)
      · have : 0 ≤ lastI fl := c1
        omega
      · have : lastI fl < gl.length := c2
        omega
      · have hlt : ((fl.length : Int) - 1).toNat < fl.length := by omega
        have hm : lastI fl ∈ fl := by unfold lastI; rw [getD_lt hlt]; exact List.getElem_mem hlt
        obtain ⟨d1, d2, d3⟩ := (rightB_iff.1 hr).2.2.1.1 _ hm
        have hl : (lastI fl).toNat < ul.length := by omega
        rw [getD_lt hl] at d3
        rw [List.getElem?_eq_getElem hl, d3]
      · have h2 : ¬ gl.getD (lastI fl).toNat default = 1000000000 := hf.2
        have h3 : 0 ≤ gl.getD (lastI fl).toNat default := c4
        have h4 : gl.getD (lastI fl).toNat default ≤ 1000000000 := c5
        omega
      · have h0 : ((lastI fl).toNat : Int) = lastI fl := by have : 0 ≤ lastI fl := c1; omega
        rw [take_yes hr hf.1 hf.2, h0]

theorem take_right {gl : List Int} {ul : List Bool} {fl : List Int} {i : Nat} (h : TakeOk gl ul fl i) : rightB (gl.set i (gl.getD i default + 1)) (ul.set i true) (fl.take (fl.length - 1)) = true := by
  obtain ⟨⟨g1, g2, g3⟩, h2, ⟨h3, h4⟩, h5⟩ := rightB_iff.1 h.right
  have hg := h.gen
  refine rightB_iff.2 ⟨by simp only [List.length_set]; omega, fun x hx => ?_, ⟨fun x hx => ?_, ?_⟩, ?_⟩
  · rcases List.mem_or_eq_of_mem_set hx with hx | rfl
    · exact h2 x hx
    · omega
  · have hx' := List.mem_of_mem_take hx
    obtain ⟨d1, d2, d3⟩ := h3 x hx'
    refine ⟨d1, by simp only [List.length_set]; exact d2, ?_⟩
    have hne : x.toNat ≠ i := fun e => by
      have hlt : fl.length - 1 < fl.length := by have := h.pos; omega
      have e2 : x = lastI fl := by rw [h.last]; omega
      have hsplit : fl = fl.take (fl.length - 1) ++ [lastI fl] := by
        have := take_succ' (xs := fl) (k := fl.length - 1) hlt
        rw [show fl.length - 1 + 1 = fl.length by omega, List.take_length] at this
        have e3 : lastI fl = fl.getD (fl.length - 1) default := by unfold lastI; congr 1; omega
        rw [e3]; exact this
      rw [hsplit, List.nodup_append] at h4
      exact h4.2.2 x hx (lastI fl) (by simp) e2
    have hl : x.toNat < ul.length := by omega
    rw [getD_lt hl] at d3
    rw [getD_lt (by simp only [List.length_set]; exact hl), List.getElem_set_ne (fun e => hne e.symm), d3]
  · exact h4.sublist (List.take_sublist _ _)
  · rw [cntU_eq, count_set_true _ _ h.free, List.length_set, List.length_take]
    rw [cntU_eq] at h5
    have := h.pos
    omega
theorem allD_mem {gl : List Int} {ul : List Bool} {fl : List Int} {p q : Int} (h : rightB gl ul fl = true) : (p, q) ∈ allD gl ul fl ↔ 0 ≤ p ∧ ul[p.toNat]? = some true ∧ gl.getD p.toNat default = q := by
  rw [← hnd_mem]; simp [allD, h]
section
variable {gl : List Int} {ul : List Bool} {fl : List Int} {i : Nat}
theorem take_has (h : TakeOk gl ul fl i) : ((i : Int), gl.getD i default + 1) ∈ allD (gl.set i (gl.getD i default + 1)) (ul.set i true) (fl.take (fl.length - 1)) := by
  have hl : i < ul.length := (List.getElem?_eq_some_iff.1 h.free).1
  refine (allD_mem (take_right h)).2 ⟨by omega, ?_, ?_⟩
  · rw [Int.toNat_natCast, List.getElem?_set_self hl]
  · rw [Int.toNat_natCast, getD_set_self h.lt]
theorem take_others (h : TakeOk gl ul fl i) {p q : Int} (hne : ¬ (p = (i : Int) ∧ q = gl.getD i default + 1)) : (p, q) ∈ allD gl ul fl ↔ (p, q) ∈ allD (gl.set i (gl.getD i default + 1)) (ul.set i true) (fl.take (fl.length - 1)) := by
  have hl : i < ul.length := (List.getElem?_eq_some_iff.1 h.free).1
  rw [allD_mem h.right, allD_mem (take_right h)]
  by_cases hp : p.toNat = i
  · subst hp
    rw [h.free, List.getElem?_set_self hl, getD_set_self h.lt]
    constructor
    · rintro ⟨_, h2, _⟩; simp at h2
    · rintro ⟨h1, _, h3⟩
      exact absurd ⟨by omega, h3.symm⟩ hne
  · rw [List.getElem?_set_ne (fun e => hp e.symm)]
    have : (gl.set i (gl.getD i default + 1)).getD p.toNat default = gl.getD p.toNat default := by
      simp only [List.getD, List.getElem?_set_ne (fun e => hp e.symm)]
    rw [this]
end

def Dead (p q : Int) (gl : List Int) (ul : List Bool) : Prop := 0 ≤ p ∧ p.toNat < gl.length ∧ q ≤ gl.getD p.toNat default ∧ (gl.getD p.toNat default = q → ul[p.toNat]? = some false)
theorem dead_take {p q : Int} {gl : List Int} {ul : List Bool} {fl : List Int} {i : Nat} (h : TakeOk gl ul fl i) (hd : Dead p q gl ul) : Dead p q (gl.set i (gl.getD i default + 1)) (ul.set i true) ∧ ¬ ((i : Int) = p ∧ gl.getD i default + 1 = q) := by
  obtain ⟨h1, h2, h3, h4⟩ := hd
  by_cases hp : p.toNat = i
  · subst hp
    refine ⟨⟨h1, by simpa using h2, ?_, ?_⟩, ?_⟩
    · rw [getD_set_self h.lt]; omega
    · rw [getD_set_self h.lt]; intro e; omega
    · rintro ⟨_, e⟩; omega
  · have hg : (gl.set i (gl.getD i default + 1)).getD p.toNat default = gl.getD p.toNat default := by
      simp only [List.getD, List.getElem?_set_ne (fun e => hp e.symm)]
    refine ⟨⟨h1, by simpa using h2, by rw [hg]; exact h3, ?_⟩, fun e => hp (by rw [← e.1]; simp)⟩
    rw [hg, List.getElem?_set_ne (fun e => hp e.symm)]; exact h4
theorem dead_given {p q : Int} {gl : List Int} {ul : List Bool} {fl : List Int} (h : rightB gl ul fl = true) (hm : (p, q) ∈ allD gl ul fl) : Dead p q gl (ul.set p.toNat false) := by
  obtain ⟨h1, h2, h3⟩ := (allD_mem h).1 hm
  have hl := (List.getElem?_eq_some_iff.1 h2).1
  have hlen := (rightB_iff.1 h).1.2.2
  exact ⟨h1, by omega, by omega, fun _ => List.getElem?_set_self hl⟩
theorem give_right {p q : Int} {gl : List Int} {ul : List Bool} {fl : List Int} (h : rightB gl ul fl = true) (hm : (p, q) ∈ allD gl ul fl) : rightB gl (ul.set p.toNat false) (fl ++ [p]) = true := by
  obtain ⟨h1, h2, _⟩ := (allD_mem h).1 hm
  have hl := (List.getElem?_eq_some_iff.1 h2).1
  obtain ⟨⟨g1, g2, g3⟩, k2, ⟨k3, k4⟩, k5⟩ := rightB_iff.1 h
  have hu : ul.getD p.toNat default = true := by rw [getD_lt hl]; exact (List.getElem?_eq_some_iff.1 h2).2
  refine rightB_iff.2 ⟨⟨g1, g2, by simp only [List.length_set]; exact g3⟩, k2, ⟨fun x hx => ?_, ?_⟩, ?_⟩
  · simp only [List.length_set]
    rcases List.mem_append.1 hx with hx | hx
    · obtain ⟨d1, d2, d3⟩ := k3 x hx
      refine ⟨d1, d2, ?_⟩
      have hlx : x.toNat < ul.length := by omega
      rw [getD_lt (by simp only [List.length_set]; exact hlx), List.getElem_set]
      split
      · rfl
      · rw [getD_lt hlx] at d3; exact d3
    · have := List.mem_singleton.1 hx
      subst this
      refine ⟨h1, by omega, ?_⟩
      rw [getD_lt (by simp only [List.length_set]; exact hl), List.getElem_set_self]
  · rw [List.nodup_append]
    refine ⟨k4, by simp, fun a ha b hb e => ?_⟩
    have := List.mem_singleton.1 hb
    subst this
    subst e
    have := (k3 a ha).2.2
    rw [hu] at this
    cases this
  · have := count_set_false _ _ h2
    rw [cntU_eq] at k5 ⊢
    simp only [List.length_append, List.length_singleton]
    omega

def rRight_l2 (s : (List Int × List Bool × List Int)) (free_1 : Nat) (i_2 : Nat) (i_8 : Nat) : Nat → Nat → Except Bool Nat
  | 0, k_13 => .ok (k_13)
  | n_14 + 1, k_13 => (if ((k_13 : Nat) : Int) < ((i_8 : Nat) : Int) then (if (s.2.2.getD k_13 default) = (s.2.2.getD i_8 default) then .error false else (rRight_l2 s free_1 i_2 i_8 n_14 (k_13 + 1))) else .ok (k_13))
def rRight_l1 (s : (List Int × List Bool × List Int)) (free_1 : Nat) (i_2 : Nat) : Nat → Nat → Except Bool Nat
  | 0, i_8 => .ok (i_8)
  | n_9 + 1, i_8 => (if ((i_8 : Nat) : Int) < ((s.2.2.length : Nat) : Int) then (if (s.2.2.getD i_8 default) < 0 then .error false else (if ((s.1.length : Nat) : Int) ≤ (s.2.2.getD i_8 default) then .error false else (if (s.2.1.getD (((s.2.2.getD i_8 default)).toNat) default) = true then .error false else (outc1 (rRight_l2 s free_1 i_2 i_8 (i_8 + 1) 0) (fun r => .error r) (fun k_13 => (rRight_l1 s free_1 i_2 n_9 (i_8 + 1))))))) else .ok (i_8))
def rRight_l0 (s : (List Int × List Bool × List Int)) : Nat → Nat → Nat → Except Bool (Nat × Nat)
  | 0, free_1, i_2 => .ok (free_1, i_2)
  | n_3 + 1, free_1, i_2 => (if ((i_2 : Nat) : Int) < ((s.1.length : Nat) : Int) then (if (s.1.getD i_2 default) < 0 then .error false else (if 1000000000 < (s.1.getD i_2 default) then .error false else (if (!(s.2.1.getD i_2 default)) = true then (rRight_l0 s n_3 (free_1 + 1) (i_2 + 1)) else (rRight_l0 s n_3 free_1 (i_2 + 1))))) else .ok (free_1, i_2))
def rRight (s : (List Int × List Bool × List Int)) : Bool := (if ((s.1.length : Nat) : Int) < 1 then false else (if 64 < ((s.1.length : Nat) : Int) then false else (if ((s.2.1.length : Nat) : Int) ≠ ((s.1.length : Nat) : Int) then false else (outc2 (rRight_l0 s (s.1.length + 1) 0 0) (fun r => r) (fun free_1 i_2 => (outc1 (rRight_l1 s free_1 i_2 (s.2.2.length + 1) 0) (fun r => r) (fun i_8 => decide (((s.2.2.length : Nat) : Int) = ((free_1 : Nat) : Int)))))))))
theorem getD_drop_cons {α : Type} [Inhabited α] {xs : List α} {i : Nat} (h : i < xs.length) : xs.drop i = xs.getD i default :: xs.drop (i + 1) := by
  rw [List.drop_eq_getElem_cons h]; simp [List.getD, h]
theorem l2_spec (s : List Int × List Bool × List Int) (f i2 i : Nat) : ∀ (n k : Nat), i - k < n → k ≤ i →
    (rRight_l2 s f i2 i n k = .ok i ∧ ∀ j, k ≤ j → j < i → s.2.2.getD j default ≠ s.2.2.getD i default) ∨ (rRight_l2 s f i2 i n k = .error false ∧ ∃ j, j < i ∧ s.2.2.getD j default = s.2.2.getD i default)
  | 0, k, h, _ => by omega
  | n + 1, k, h, hk => by
    simp only [rRight_l2]
    by_cases h1 : k < i
    · rw [if_pos (by omega)]
      by_cases h2 : s.2.2.getD k default = s.2.2.getD i default
      · rw [if_pos h2]; exact .inr ⟨rfl, k, h1, h2⟩
      · rw [if_neg h2]
        rcases l2_spec s f i2 i n (k + 1) (by omega) (by omega) with ⟨e, g⟩ | ⟨e, g⟩
        · refine .inl ⟨e, fun j hj hj2 => ?_⟩
          by_cases hjk : j = k
          · subst hjk; exact h2
          · exact g j (by omega) hj2
        · exact .inr ⟨e, g⟩
    · rw [if_neg (by omega)]
      obtain rfl : k = i := by omega
      exact .inl ⟨rfl, fun j hj hj2 => by omega⟩
def goodF (s : List Int × List Bool × List Int) (i : Nat) : Prop := 0 ≤ s.2.2.getD i default ∧ s.2.2.getD i default < s.1.length ∧ s.2.1.getD (s.2.2.getD i default).toNat default = false ∧ ∀ j, j < i → s.2.2.getD j default ≠ s.2.2.getD i default
theorem l1_spec (s : List Int × List Bool × List Int) (f i2 : Nat) : ∀ (n i : Nat), s.2.2.length - i < n → i ≤ s.2.2.length →
    (rRight_l1 s f i2 n i = .ok s.2.2.length ∧ ∀ j, i ≤ j → j < s.2.2.length → goodF s j) ∨ (rRight_l1 s f i2 n i = .error false ∧ ∃ j, j < s.2.2.length ∧ ¬ goodF s j)
  | 0, i, h, _ => by omega
  | n + 1, i, h, hi => by
    simp only [rRight_l1]
    by_cases h1 : i < s.2.2.length
    · rw [if_pos (by omega)]
      by_cases h2 : s.2.2.getD i default < 0
      · rw [if_pos h2]; exact .inr ⟨rfl, i, h1, fun g => by have := g.1; omega⟩
      rw [if_neg h2]
      by_cases h3 : (s.1.length : Int) ≤ s.2.2.getD i default
      · rw [if_pos h3]; exact .inr ⟨rfl, i, h1, fun g => by have := g.2.1; omega⟩
      rw [if_neg h3]
      by_cases h4 : s.2.1.getD (s.2.2.getD i default).toNat default = true
      · rw [if_pos h4]; exact .inr ⟨rfl, i, h1, fun g => by have := g.2.2.1; rw [h4] at this; cases this⟩
      rw [if_neg h4]
      rcases l2_spec s f i2 i (i + 1) 0 (by omega) (by omega) with ⟨e, g⟩ | ⟨e, j, g1, g2⟩
      · simp only [e, outc1]
        have hg : goodF s i := ⟨by omega, by omega, by simpa using h4, fun j hj => g j (by omega) hj⟩
        rcases l1_spec s f i2 n (i + 1) (by omega) (by omega) with ⟨e2, g2⟩ | ⟨e2, g2⟩
        · refine .inl ⟨e2, fun j hj hj2 => ?_⟩
          by_cases hji : j = i
          · subst hji; exact hg
          · exact g2 j (by omega) hj2
        · exact .inr ⟨e2, g2⟩
      · simp only [e, outc1]
        exact .inr ⟨trivial, i, h1, fun hh => hh.2.2.2 j g1 g2⟩
    · rw [if_neg (by omega)]
      obtain rfl : i = s.2.2.length := by omega
      exact .inl ⟨rfl, fun j hj hj2 => by omega⟩
theorem l0_spec (s : List Int × List Bool × List Int) (hl : s.2.1.length = s.1.length) : ∀ (n f i : Nat), s.1.length - i < n → i ≤ s.1.length →
    (rRight_l0 s n f i = .ok (f + (s.2.1.drop i).count false, s.1.length) ∧ ∀ j, i ≤ j → j < s.1.length → 0 ≤ s.1.getD j default ∧ s.1.getD j default ≤ 1000000000) ∨ (rRight_l0 s n f i = .error false ∧ ∃ j, j < s.1.length ∧ ¬ (0 ≤ s.1.getD j default ∧ s.1.getD j default ≤ 1000000000))
  | 0, f, i, h, _ => by omega
  | n + 1, f, i, h, hi => by
    simp only [rRight_l0]
    by_cases h1 : i < s.1.length
    · rw [if_pos (by omega)]
      by_cases h2 : s.1.getD i default < 0
      · rw [if_pos h2]; exact .inr ⟨rfl, i, h1, by omega⟩
      rw [if_neg h2]
      by_cases h3 : 1000000000 < s.1.getD i default
      · rw [if_pos h3]; exact .inr ⟨rfl, i, h1, by omega⟩
      rw [if_neg h3]
      have hd := getD_drop_cons (xs := s.2.1) (i := i) (by omega)
      have key : ∀ f', (f' + (s.2.1.drop (i + 1)).count false = f + (s.2.1.drop i).count false) → ((rRight_l0 s n f' (i + 1) = .ok (f + (s.2.1.drop i).count false, s.1.length) ∧ ∀ j, i ≤ j → j < s.1.length → 0 ≤ s.1.getD j default ∧ s.1.getD j default ≤ 1000000000) ∨ (rRight_l0 s n f' (i + 1) = .error false ∧ ∃ j, j < s.1.length ∧ ¬ (0 ≤ s.1.getD j default ∧ s.1.getD j default ≤ 1000000000))) := by
        intro f' hf
        rcases l0_spec s hl n f' (i + 1) (by omega) (by omega) with ⟨e, g⟩ | ⟨e, g⟩
        · refine .inl ⟨by rw [e, hf], fun j hj hj2 => ?_⟩
          by_cases hji : j = i
          · subst hji; omega
          · exact g j (by omega) hj2
        · exact .inr ⟨e, g⟩
      cases hb : s.2.1.getD i default
      · rw [if_pos (by simp)]
        exact key _ (by rw [hd, hb]; simp; omega)
      · rw [if_neg (by simp)]
        exact key _ (by rw [hd, hb]; simp)
    · rw [if_neg (by omega)]
      obtain rfl : i = s.1.length := by omega
      refine .inl ⟨?_, fun j hj hj2 => by omega⟩
      rw [List.drop_of_length_le (by omega)]; simp
theorem getD_lt_mem {α : Type} [Inhabited α] {xs : List α} {j : Nat} (h : j < xs.length) : xs.getD j default ∈ xs := by
  rw [getD_lt h]; exact List.getElem_mem h
theorem nodup_iff_getD {xs : List Int} : xs.Nodup ↔ ∀ i, i < xs.length → ∀ j, j < i → xs.getD j default ≠ xs.getD i default := by
  unfold List.Nodup
  rw [List.pairwise_iff_getElem]
  constructor
  · intro h i hi j hj
    rw [getD_lt hi, getD_lt (by omega)]
    exact h j i (by omega) hi hj
  · intro h i j hi hj hij
    have := h j hj i hij
    rwa [getD_lt hi, getD_lt hj] at this
theorem rRight_iff (s : List Int × List Bool × List Int) : rRight s = true ↔ (1 ≤ s.1.length ∧ s.1.length ≤ 64 ∧ s.2.1.length = s.1.length) ∧ (∀ j, j < s.1.length → 0 ≤ s.1.getD j default ∧ s.1.getD j default ≤ 1000000000) ∧ (∀ j, j < s.2.2.length → goodF s j) ∧ s.2.2.length = s.2.1.count false := by
  unfold rRight
  by_cases h1 : (s.1.length : Int) < 1
  · rw [if_pos h1]; simp only [Bool.false_eq_true, false_iff]; omega
  rw [if_neg h1]
  by_cases h2 : 64 < (s.1.length : Int)
  · rw [if_pos h2]; simp only [Bool.false_eq_true, false_iff]; omega
  rw [if_neg h2]
  by_cases h3 : (s.2.1.length : Int) = (s.1.length : Int)
  · rw [if_neg (by simpa using h3)]
    rcases l0_spec s (by omega) (s.1.length + 1) 0 0 (by omega) (by omega) with ⟨e, g⟩ | ⟨e, j, g1, g2⟩
    · simp only [e, outc2]
      rcases l1_spec s (0 + (s.2.1.drop 0).count false) s.1.length (s.2.2.length + 1) 0 (by omega) (by omega) with ⟨e2, k⟩ | ⟨e2, j, k1, k2⟩
      · rw [e2]
        simp only [outc1, decide_eq_true_eq, List.drop_zero]
        constructor
        · intro h
          exact ⟨by omega, fun j hj => g j (by omega) hj, fun j hj => k j (by omega) hj, by omega⟩
        · rintro ⟨_, _, _, h⟩; omega
      · rw [e2]
        simp only [outc1, Bool.false_eq_true, false_iff]
        rintro ⟨_, _, h, _⟩
        exact k2 (h j k1)
    · simp only [e, outc2, Bool.false_eq_true, false_iff]
      rintro ⟨_, h, _⟩
      exact g2 (h j g1)
  · rw [if_pos (by simpa using h3)]; simp only [Bool.false_eq_true, false_iff]; omega
theorem count_two (l : List Bool) : l.count true + l.count false = l.length := by
  induction l with
  | nil => rfl
  | cons a l ih => cases a <;> simp <;> omega
theorem rRight_eq (s : List Int × List Bool × List Int) : rRight s = rightB s.1 s.2.1 s.2.2 := by
  rw [Bool.eq_iff_iff, rRight_iff, rightB_iff]
  have hc := cntU_eq s.2.1
  have h2 := count_two s.2.1
  constructor
  · rintro ⟨h1, h3, h4, h5⟩
    refine ⟨h1, fun x hx => ?_, ⟨fun x hx => ?_, ?_⟩, by omega⟩
    · obtain ⟨j, hj, rfl⟩ := List.getElem_of_mem hx
      have := h3 j hj
      rwa [getD_lt hj] at this
    · obtain ⟨j, hj, rfl⟩ := List.getElem_of_mem hx
      have := h4 j hj
      unfold goodF at this
      rw [getD_lt hj] at this
      exact ⟨this.1, by omega, this.2.2.1⟩
    · exact nodup_iff_getD.2 fun i hi j hj => (h4 i hi).2.2.2 j hj
  · rintro ⟨h1, h3, ⟨h4, h5⟩, h6⟩
    refine ⟨h1, fun j hj => h3 _ (getD_lt_mem hj), fun j hj => ?_, by omega⟩
    obtain ⟨a, b, c⟩ := h4 _ (getD_lt_mem hj)
    exact ⟨a, by omega, c, nodup_iff_getD.1 h5 j hj⟩
def rValid (s : (List Int × List Bool × List Int)) (h : (Int × Int)) : Bool := (if (rRight s) = true then (if 0 ≤ h.1 then (if h.1 < ((s.1.length : Nat) : Int) then (if (s.2.1.getD ((h.1).toNat) default) = true then decide ((s.1.getD ((h.1).toNat) default) = h.2) else false) else false) else false) else false)
def rTake (s : (List Int × List Bool × List Int)) : (List Int × List Bool × List Int) × (Int × Int) × Int := (if (!(rRight s)) = true then (([], [], []), (0, 0), 90) else (if (((s.2.2.length : Nat) : Int) - 1) < 0 then (([], [], []), (0, 0), 92) else (if (s.1.getD (((s.2.2.getD (((((s.2.2.length : Nat) : Int) - 1)).toNat) default)).toNat) default) = 1000000000 then (([], [], []), (0, 0), 92) else (((((s).1).set (((((s).2.2).getD (((((s.2.2.length : Nat) : Int) - 1)).toNat) default)).toNat) ((((s).1).getD (((((s).2.2).getD (((((s.2.2.length : Nat) : Int) - 1)).toNat) default)).toNat) default) + 1)), (((s).2.1).set (((((s).2.2).getD (((((s.2.2.length : Nat) : Int) - 1)).toNat) default)).toNat) true), (((s).2.2).take (((((s.2.2.length : Nat) : Int) - 1)).toNat))), ((((s).2.2).getD (((((s.2.2.length : Nat) : Int) - 1)).toNat) default), ((((s).1).set (((((s).2.2).getD (((((s.2.2.length : Nat) : Int) - 1)).toNat) default)).toNat) ((((s).1).getD (((((s).2.2).getD (((((s.2.2.length : Nat) : Int) - 1)).toNat) default)).toNat) default) + 1)).getD (((((s).2.2).getD (((((s.2.2.length : Nat) : Int) - 1)).toNat) default)).toNat) default)), 0))))
def rGive (s : (List Int × List Bool × List Int)) (h : (Int × Int)) : (List Int × List Bool × List Int) × Int := (if (!(rRight s)) = true then (([], [], []), 90) else (if (!(rValid s h)) = true then (([], [], []), 91) else ((((s).1), (((s).2.1).set ((h.1).toNat) false), (((s).2.2) ++ ([h.1] : List Int))), 0)))

theorem rValid_eq (s : List Int × List Bool × List Int) (h : Int × Int) : rValid s h = decide ((h.1, h.2) ∈ allD s.1 s.2.1 s.2.2) := by
  unfold rValid
  rw [rRight_eq, Bool.eq_iff_iff, decide_eq_true_eq]
  cases hr : rightB s.1 s.2.1 s.2.2
  · rw [if_neg (by simp), all_no hr]; simp
  · have hlen := (rightB_iff.1 hr).1.2.2
    rw [if_pos rfl, allD_mem hr]
    by_cases h0 : 0 ≤ h.1
    · rw [if_pos h0]
      by_cases h1 : h.1 < (s.1.length : Int)
      · rw [if_pos h1]
        have hlt : h.1.toNat < s.2.1.length := by omega
        rw [getD_lt hlt, List.getElem?_eq_getElem hlt]
        by_cases h2 : s.2.1[h.1.toNat] = true
        · rw [if_pos h2]; simp [h2, h0]
        · rw [if_neg h2]; simp at h2; simp [h2]
      · rw [if_neg h1]
        simp only [Bool.false_eq_true, false_iff]
        rintro ⟨_, hu, _⟩
        have := (List.getElem?_eq_some_iff.1 hu).1
        omega
    · rw [if_neg h0]; simp [h0]
theorem rTake_eq (s : List Int × List Bool × List Int) : rTake s = takeD s.1 s.2.1 s.2.2 := by
  unfold rTake
  rw [rRight_eq]
  cases hr : rightB s.1 s.2.1 s.2.2
  · rw [take_no hr, if_pos (by simp)]
  · rw [if_neg (by simp)]
    by_cases h1 : s.2.2.length = 0
    · rw [if_pos (by omega), take_full hr (.inl h1)]
    rw [if_neg (by omega)]
    obtain ⟨a, b, c, d, e⟩ := right_last hr h1
    by_cases h2 : s.1.getD (s.2.2.getD ((s.2.2.length : Int) - 1).toNat default).toNat default = 1000000000
    · rw [if_pos h2, take_full hr (.inr h2)]
    · rw [if_neg h2, take_yes hr h1 h2]
      simp only [getD_set_self (show (s.2.2.getD ((s.2.2.length : Int) - 1).toNat default).toNat < s.1.length by omega)]
      rw [show ((s.2.2.length : Int) - 1).toNat = s.2.2.length - 1 by omega]
      simp only [lastI, show ((s.2.2.length : Int) - 1).toNat = s.2.2.length - 1 by omega]
theorem rGive_eq (s : List Int × List Bool × List Int) (h : Int × Int) : rGive s h = giveD s.1 s.2.1 s.2.2 h.1 h.2 := by
  unfold rGive giveD
  rw [rRight_eq, rValid_eq]
  cases hr : rightB s.1 s.2.1 s.2.2
  · simp
  · rw [if_neg (by simp), if_pos rfl]
    by_cases hm : (h.1, h.2) ∈ allD s.1 s.2.1 s.2.2
    · rw [if_neg (by simp [hm]), if_pos hm]
    · rw [if_pos (by simp [hm]), if_neg hm]
end Go.Proofs.YtopjaeoklkpcpaaGreatDoor.Jd.SlT

namespace Go.Proofs.YtopjaeoklkpcpaaGreatDoor.Jd
set_option linter.unusedVariables false
set_option linter.unusedSimpArgs false
def sT (s : Slots) : List Int × List Bool × List Int := (s.gens, s.used, s.free)
def hT (h : Handle) : Int × Int := (h.slot, h.gen)
theorem hT_inj {a b : Handle} (h : hT a = hT b) : a = b := by
  cases a; cases b; simp [hT] at h; simp [h]
theorem sT_inj {a b : Slots} (h : sT a = sT b) : a = b := by
  cases a; cases b; simp [sT] at h; simp [h]
theorem rsRight_l2_eq (s : Slots) (f i2 i : Nat) : ∀ n k, rsRight_l2 s f i2 i n k = SlT.rRight_l2 (sT s) f i2 i n k
  | 0, k => rfl
  | n + 1, k => by
    unfold rsRight_l2 SlT.rRight_l2
    rw [rsRight_l2_eq s f i2 i n (k + 1)]; rfl
theorem rsRight_l1_eq (s : Slots) (f i2 : Nat) : ∀ n k, rsRight_l1 s f i2 n k = SlT.rRight_l1 (sT s) f i2 n k
  | 0, k => rfl
  | n + 1, k => by
    unfold rsRight_l1 SlT.rRight_l1
    rw [rsRight_l1_eq s f i2 n (k + 1), rsRight_l2_eq]; rfl
theorem rsRight_l0_eq (s : Slots) : ∀ n f k, rsRight_l0 s n f k = SlT.rRight_l0 (sT s) n f k
  | 0, f, k => rfl
  | n + 1, f, k => by
    unfold rsRight_l0 SlT.rRight_l0
    rw [rsRight_l0_eq s n (f + 1) (k + 1), rsRight_l0_eq s n f (k + 1)]; rfl
theorem rsRight_eq0 (s : Slots) : rsRight s = SlT.rRight (sT s) := by
  unfold rsRight SlT.rRight
  simp only [rsRight_l0_eq, rsRight_l1_eq]; rfl
theorem rsRight_eq (s : Slots) : rsRight s = SlT.rightB s.gens s.used s.free := by rw [rsRight_eq0, SlT.rRight_eq]; rfl
theorem rsValid_eq0 (s : Slots) (h : Handle) : rsValid s h = SlT.rValid (sT s) (hT h) := by
  unfold rsValid SlT.rValid
  rw [rsRight_eq0]; rfl
theorem rsTake_eq0 (s : Slots) : (sT (rsTake s).1, hT (rsTake s).2.1, (rsTake s).2.2) = SlT.rTake (sT s) := by
  unfold rsTake SlT.rTake
  rw [rsRight_eq0]
  repeat' split
  all_goals first | rfl | contradiction
theorem rsGive_eq0 (s : Slots) (h : Handle) : (sT (rsGive s h).1, (rsGive s h).2) = SlT.rGive (sT s) (hT h) := by
  unfold rsGive SlT.rGive
  rw [rsRight_eq0, rsValid_eq0]
  repeat' split
  all_goals first | rfl | contradiction
end Go.Proofs.YtopjaeoklkpcpaaGreatDoor.Jd

namespace Go.Proofs.YtopjaeoklkpcpaaGreatDoor.Jd
set_option linter.unusedVariables false
set_option linter.unusedSimpArgs false
theorem small_iff {l : List Tenant} : Small l ↔ ∀ t ∈ l, t.rules.length ≤ 1000 ∧ t.creds.length ≤ 1000 := by
  constructor
  · intro h t ht
    obtain ⟨k, hk, rfl⟩ := List.getElem_of_mem ht
    have := h k hk
    simpa [List.getD, hk] using this
  · intro h i hi
    refine h _ ?_
    rw [List.getD_eq_getElem?_getD, List.getElem?_eq_getElem hi]; exact List.getElem_mem hi
theorem Small.nil : Small [] := fun i hi => by simp at hi
theorem Small.at {l : List Tenant} (h : Small l) (i : Nat) : (l.getD i default).rules.length ≤ 1000 ∧ (l.getD i default).creds.length ≤ 1000 := by
  by_cases hi : i < l.length
  · exact h i hi
  · have e : l.getD i default = default := by rw [List.getD_eq_getElem?_getD, List.getElem?_eq_none (by omega)]; rfl
    rw [e]; exact ⟨by decide, by decide⟩
theorem Small.cons {t : Tenant} {l : List Tenant} (h1 : t.rules.length ≤ 1000 ∧ t.creds.length ≤ 1000) (h : Small l) : Small (t :: l) := by
  rw [small_iff] at h ⊢
  intro u hu
  rcases List.mem_cons.1 hu with rfl | hu
  · exact h1
  · exact h u hu
theorem Small.append {a b : List Tenant} (h : Small a) (h2 : Small b) : Small (a ++ b) := by
  rw [small_iff] at h h2 ⊢
  intro u hu
  rcases List.mem_append.1 hu with hu | hu
  · exact h u hu
  · exact h2 u hu
theorem Small.one {t : Tenant} (h1 : t.rules.length ≤ 1000) (h2 : t.creds.length ≤ 1000) : Small [t] := Small.cons ⟨h1, h2⟩ Small.nil
theorem Small.take {a : List Tenant} (h : Small a) (n : Nat) : Small (a.take n) := by
  rw [small_iff] at h ⊢
  exact fun u hu => h u (List.mem_of_mem_take hu)
theorem Small.drop {a : List Tenant} (h : Small a) (n : Nat) : Small (a.drop n) := by
  rw [small_iff] at h ⊢
  exact fun u hu => h u (List.mem_of_mem_drop hu)
theorem Small.delL {a : List Tenant} (h : Small a) (i j : Nat) : Small (delL a i j) := (h.take i).append (h.drop j)
theorem Small.put : ∀ {l : List Tenant} {x : Tenant}, Small l → (x.rules.length ≤ 1000 ∧ x.creds.length ≤ 1000) → Small (putX l x)
  | [], x, h, hx => Small.cons hx Small.nil
  | t :: r, x, h, hx => by
    have hr : Small r := by
      rw [small_iff] at h ⊢
      exact fun u hu => h u (List.mem_cons_of_mem _ hu)
    have ht : t.rules.length ≤ 1000 ∧ t.creds.length ≤ 1000 := by
      rw [small_iff] at h
      exact h t List.mem_cons_self
    unfold putX
    split
    · exact Small.cons ht (hr.put hx)
    · split
      · exact Small.cons hx hr
      · exact Small.cons hx h
theorem cFew_l0_len (l : List Cred) : ∀ n out i, out.length ≤ i → i ≤ 6 → (cFew_l0 l n out i).1.length ≤ 6
  | 0, out, i, h1, h2 => by simp only [cFew_l0]; omega
  | n + 1, out, i, h1, h2 => by
    unfold cFew_l0
    split
    · split
      · exact cFew_l0_len l n _ (i + 1) (by simp; omega) (by omega)
      · simp only; omega
    · simp only; omega
theorem cFew_len (l : List Cred) : (cFew l).length ≤ 6 := cFew_l0_len l 7 [] 0 (by simp) (by omega)
theorem lFew8_len (l : List Rule) : (lFew8 l).length ≤ 18 := by unfold lFew8; rw [List.length_take]; omega
theorem gCut_l0_small (r : Registry) : ∀ n i acc, Small acc → Small (gCut_l0 r n i acc).2
  | 0, i, acc, h => h
  | n + 1, i, acc, h => by
    unfold gCut_l0
    split
    · split
      · refine gCut_l0_small r n (i + 1) _ (h.append (Small.one ?_ ?_))
        · exact Nat.le_trans (lFew8_len _) (by decide)
        · exact Nat.le_trans (cFew_len _) (by decide)
      · exact h
    · exact h
theorem gCut_small (r : Registry) : Small (gCut r).l := gCut_l0_small r 9 0 [] Small.nil
theorem gCut_bd (r : Registry) : (gCut r).slots.gens.length ≤ 66 ∧ (gCut r).slots.used.length ≤ 66 ∧ (gCut r).slots.free.length ≤ 66 := by
  refine ⟨?_, ?_, ?_⟩
  · show (List.take _ _).length ≤ 66
    rw [List.length_take]; omega
  · show (List.take _ _).length ≤ 66
    rw [List.length_take]; omega
  · show (List.take _ _).length ≤ 66
    rw [List.length_take]; omega
theorem aclInsert_len (l : List Rule) (a : Int) (r : Rule) : (aclInsert l a r).1.length ≤ 1000 := by
  unfold aclInsert
  repeat' split
  all_goals first | (simp; done) | skip
  show (insL l a.toNat r).length ≤ 1000
  rw [insL_length (by omega)]; omega
theorem aclRemove_len {l : List Rule} (a : Int) (h : l.length ≤ 1000) : (aclRemove l a).1.length ≤ 1000 := by
  unfold aclRemove
  repeat' split
  all_goals first | (simp; done) | skip
  show (delL l a.toNat (a + 1).toNat).length ≤ 1000
  rw [delL_length (by omega) (by omega)]; omega
theorem cRot_len (l : List Cred) (key : Str) (now overlap span : Int) : (cRot l key now overlap span).1.length ≤ 1000 := by
  unfold cRot
  repeat' split
  all_goals first | (simp; done) | skip
  generalize cRot_l0 l key now overlap span (l.length + 1) 0 [] 1 = x
  obtain ⟨x1, x2, x3⟩ := x
  simp only [run3]
  repeat' split
  all_goals first | (simp; done) | skip
  show (x2 ++ [Cred.mk x3 key now (now + span)]).length ≤ 1000
  omega
theorem ite_ind {α : Type} {P : α → Prop} {c : Prop} [Decidable c] {a b : α} (h1 : P a) (h2 : P b) : P (if c then a else b) := by split <;> assumption
theorem gApply_small {r : Registry} (role : Int) (c : Command) (now : Int) (h : Small r.l) : Small (gApply r role c now).1.l := by
  have hx := h.at (xN r c)
  unfold gApply
  simp only [run0, run1]
  show (fun x : Registry × Reply => Small x.1.l) _
  repeat' (refine ite_ind (P := fun x : Registry × Reply => Small x.1.l) ?_ ?_)
  all_goals first
    | exact Small.nil
    | exact h
    | exact h.delL _ _
    | exact h.put hx
    | exact h.put ⟨Nat.zero_le _, cRot_len _ _ _ _ _⟩
    | exact h.put ⟨hx.1, cRot_len _ _ _ _ _⟩
    | exact h.put ⟨aclInsert_len _ _ _, hx.2⟩
    | exact h.put ⟨aclRemove_len _ hx.1, hx.2⟩

end Go.Proofs.YtopjaeoklkpcpaaGreatDoor.Jd

namespace Go.Proofs.YtopjaeoklkpcpaaGreatDoor.Jd
open Go.Proofs
open Go.RowKit (Below)
set_option maxRecDepth 100000
set_option maxHeartbeats 8000000
set_option linter.unusedVariables false
set_option linter.unusedSimpArgs false

theorem PL_36 : Places Tryz.prog 36 [(0, 1), (1, 1), (2, 1), (3, 1), (4, 5), (9, 1), (10, 1), (11, 1)] := ⟨_, fun w => Tryz.runUnderlying36 w, fun w => by simp⟩
theorem EQH_44 (a0 b0 : Int) (a1 b1 : Int) (a2 b2 : Int) (a3 b3 : Int) (a4 b4 : Int) (a5 b5 : Int) (n : Nat) (w : World) : (Op.equalIn (n + 3) 44 (Value.agg [vi a0, vi a1, vi a2, vi a3, vi a4, vi a5].toArray) (Value.agg [vi b0, vi b1, vi b2, vi b3, vi b4, vi b5].toArray)).run Tryz.prog w = .ok (decide (a0 = b0 ∧ a1 = b1 ∧ a2 = b2 ∧ a3 = b3 ∧ a4 = b4 ∧ a5 = b5)) w := by
 have hs0 := EQH_42 a2 b2 a3 b3 n w
 rw [show n + 3 = (n + 2) + 1 from rfl]
 unfold Op.equalIn
 simp [part, run_eqI (P := Tryz.prog) (t := 3) (n + 1) .i64 _ _ Tryz.runUnderlying3, run_eqI (P := Tryz.prog) (t := 40) (n + 1) .i64 _ _ Tryz.runUnderlying40, hs0] at *
 by_cases h0 : a0 = b0 <;> by_cases h1 : a1 = b1 <;> by_cases h2 : a2 = b2 <;> by_cases h3 : a3 = b3 <;> by_cases h4 : a4 = b4 <;> by_cases h5 : a5 = b5 <;> simp_all
theorem EQ_44 (x y : Operand) (a0 b0 : Int) (a1 b1 : Int) (a2 b2 : Int) (a3 b3 : Int) (a4 b4 : Int) (a5 b5 : Int) (w : World) : (do eqGuard .eql 44 x y (Value.agg [vi a0, vi a1, vi a2, vi a3, vi a4, vi a5].toArray) (Value.agg [vi b0, vi b1, vi b2, vi b3, vi b4, vi b5].toArray); binOp .eql 44 (Value.agg [vi a0, vi a1, vi a2, vi a3, vi a4, vi a5].toArray) (Value.agg [vi b0, vi b1, vi b2, vi b3, vi b4, vi b5].toArray) : Sem Value).run Tryz.prog w = .ok (.bool (decide (a0 = b0 ∧ a1 = b1 ∧ a2 = b2 ∧ a3 = b3 ∧ a4 = b4 ∧ a5 = b5))) w := by
 have h2 : (binOp .eql 44 (Value.agg [vi a0, vi a1, vi a2, vi a3, vi a4, vi a5].toArray) (Value.agg [vi b0, vi b1, vi b2, vi b3, vi b4, vi b5].toArray)).run Tryz.prog w = .ok (.bool (decide (a0 = b0 ∧ a1 = b1 ∧ a2 = b2 ∧ a3 = b3 ∧ a4 = b4 ∧ a5 = b5))) w := by
  show (do pure (.bool (← Op.equal 44 _ _)) : Sem Value).run Tryz.prog w = _
  simp only [Sem.run_bind, Op.equal, Op.maxDepth, EQH_44 a0 b0 a1 b1 a2 b2 a3 b3 a4 b4 a5 b5 9997, Result.andThen_ok, Sem.run_pure]
 simp [eqGuard]
 simpa using h2
theorem gCut9_ok (w : World) {s_gens_a : Option Addr} {s_gens_c : Nat} {s_used_a : Option Addr} {s_used_c : Nat} {s_free_a : Option Addr} {s_free_c : Nat} {s : Slots} (h_s_gens : Sl w eI 1 s_gens_a s.gens) (k_s_gens : s.gens.length ≤ s_gens_c) (h_s_used : Sl w eB 1 s_used_a s.used) (k_s_used : s.used.length ≤ s_used_c) (h_s_free : Sl w eI 1 s_free_a s.free) (k_s_free : s.free.length ≤ s_free_c) : Val Tryz.prog 36 [(Value.agg [(vs s_gens_a s.gens.length s_gens_c), (vs s_used_a s.used.length s_used_c), (vs s_free_a s.free.length s_free_c)].toArray)] w (Value.agg [(vs s_gens_a ((s.gens.take (min s.gens.length 66)).length) s_gens_c), (vs s_used_a ((s.used.take (min s.used.length 66)).length) s_used_c), (vs s_free_a ((s.free.take (min s.free.length 66)).length) s_free_c)].toArray) := by
 have hF := Is.refl s
 refine enter Tryz.func36 Tryz.ntmps36 (h := ?_)
 refine Z2 ?_
 refine JL_a noMk (a_box (l := [_, _, _])) (k := fun r1 hr1 => ?_)
 refine JL_a noMk (a_alloc (l := [_, _, _]) Tryz.zeroValue25) (k := fun r2 hr2 => ?_)
 refine Z72 ?_
 refine J_plan mixed 22 [(true, 0), (true, 1), (true, 2), (true, 3), (true, 4), (true, 5), (true, 6), (true, 7), (true, 8), (true, 9), (true, 10), (true, 11), (true, 12), (true, 13), (true, 14), (true, 15), (true, 16), (true, 17), (true, 18), (true, 19), (true, 20), (true, 21)] (by kernel_rfl) ?_
 refine Z83 ?_
 refine Z83 ?_
 refine JD_q (q_lenS Tryz.runUnderlying22) (k := ?_)
 refine JD_q q_min (k := ?_)
 have hl1 : (s.gens.take (min s.gens.length 66)).length = (min s.gens.length 66) := by rw [List.length_take]; first | (split <;> omega) | omega
 refine JD_q (q_sliceHi' (s.gens.take (min s.gens.length 66)).length Tryz.runUnderlying22 (fun w => ⟨_, Tryz.sizeOf3 w⟩) (hm := by omega) (hi := by first | (split <;> omega) | omega)) (k := ?_)
 refine Z262 ?_
 refine Z262 ?_
 refine JD_q (q_lenS Tryz.runUnderlying23) (k := ?_)
 refine JD_q q_min (k := ?_)
 have hl2 : (s.used.take (min s.used.length 66)).length = (min s.used.length 66) := by rw [List.length_take]; first | (split <;> omega) | omega
 refine JD_q (q_sliceHi' (s.used.take (min s.used.length 66)).length Tryz.runUnderlying23 (fun w => ⟨_, Tryz.sizeOf4 w⟩) (hm := by omega) (hi := by first | (split <;> omega) | omega)) (k := ?_)
 refine Z263 ?_
 refine Z263 ?_
 refine JD_q (q_lenS Tryz.runUnderlying22) (k := ?_)
 refine JD_q q_min (k := ?_)
 have hl3 : (s.free.take (min s.free.length 66)).length = (min s.free.length 66) := by rw [List.length_take]; first | (split <;> omega) | omega
 refine JD_q (q_sliceHi' (s.free.take (min s.free.length 66)).length Tryz.runUnderlying22 (fun w => ⟨_, Tryz.sizeOf3 w⟩) (hm := by omega) (hi := by first | (split <;> omega) | omega)) (k := ?_)
 refine JD_q (q_build (cs := [_, _, _]) Tryz.zeroValue25 PL_25) (k := ?_)
 refine JD_nil0 ?_
 refine Z519 ?_
 refine Z44 ?_
 refine JX_ret Tryz.results36 (Res.agg Tryz.isAgg25 Tryz.sizeOf25 rfl me rfl Res.nil) (fun w1 hw1 => ?_)
 exact ⟨by first | rfl | (simp only [List.length_take]; rfl), hw1.ext_out⟩

theorem gCut_ok (w : World) {r_slots_gens_a : Option Addr} {r_slots_gens_c : Nat} {r_slots_used_a : Option Addr} {r_slots_used_c : Nat} {r_slots_free_a : Option Addr} {r_slots_free_c : Nat} {r_l_a : Option Addr} {r_l_c : Nat} {r_l_t : List TA} {r : Registry} (h_r_slots_gens : Sl w eI 1 r_slots_gens_a r.slots.gens) (k_r_slots_gens : r.slots.gens.length ≤ r_slots_gens_c) (h_r_slots_used : Sl w eB 1 r_slots_used_a r.slots.used) (k_r_slots_used : r.slots.used.length ≤ r_slots_used_c) (h_r_slots_free : Sl w eI 1 r_slots_free_a r.slots.free) (k_r_slots_free : r.slots.free.length ≤ r_slots_free_c) (h_r_l : SlN w eTenant 8 DT r_l_a r.l r_l_t) (k_r_l : r.l.length ≤ r_l_c) : Calls Tryz.prog 15 (List.toArray [(Value.agg [(vs r_slots_gens_a r.slots.gens.length r_slots_gens_c), (vs r_slots_used_a r.slots.used.length r_slots_used_c), (vs r_slots_free_a r.slots.free.length r_slots_free_c), (vs r_l_a r.l.length r_l_c), (vi r.seq)].toArray)]) w fun e w2 => ∃ a1 : Option Addr, ∃ c1 : Nat, ∃ t1 : List TA, ∃ B : Heap, e = .returned (Value.agg [(vs r_slots_gens_a ((gCut r).slots.gens.length) r_slots_gens_c), (vs r_slots_used_a ((gCut r).slots.used.length) r_slots_used_c), (vs r_slots_free_a ((gCut r).slots.free.length) r_slots_free_c), (vs a1 ((gCut r).l.length) c1), (vi ((gCut r).seq))].toArray) ∧ Fresh w w2 B ∧ (SlNB B eTenant 8 DT a1 (gCut r).l t1 ∧ (gCut r).l.length ≤ c1) ∧ (gCut r).l.length ≤ 8 := by
 have hF := Is.refl (gCut r)
 refine enter Tryz.func15 Tryz.ntmps15 (h := ?_)
 refine Z2 ?_
 refine JL_a noMk (a_box (l := [_, _, _, _, _])) (k := fun r1 hr1 => ?_)
 refine JL_a noMk (a_alloc (l := [_, _, _, _, _]) Tryz.zeroValue28) (k := fun r2 hr2 => ?_)
 refine Z72 ?_
 refine J_join1 (σ1 := Nat) (fun r143 => ((r143, oc [(vs r_slots_gens_a ((r.slots.gens.take (min r.slots.gens.length 66)).length) r_slots_gens_c), (vs r_slots_used_a ((r.slots.used.take (min r.slots.used.length 66)).length) r_slots_used_c), (vs r_slots_free_a ((r.slots.free.take (min r.slots.free.length 66)).length) r_slots_free_c), (vs none 0 0), (vi r.seq)] 28) :: ((r2, oc [(vs none 0 0), (vs none 0 0), (vs none 0 0), (vs none 0 0), (vi 0)] 28) :: ((r1, oc [(vs r_slots_gens_a r.slots.gens.length r_slots_gens_c), (vs r_slots_used_a r.slots.used.length r_slots_used_c), (vs r_slots_free_a r.slots.free.length r_slots_free_c), (vs r_l_a r.l.length r_l_c), (vi r.seq)] 28) :: [])))) (fun r143 => [(1, (Value.pointer (some ⟨r1, 0, none⟩))), (2, (Value.pointer (some ⟨r2, 0, none⟩))), (3, (Value.pointer (some ⟨r143, 0, none⟩)))]) (fun r143 => Is () ()) ?_ ?_
 ·skip
  refine J_any (V := []) mixed 7 (by kernel_rfl) ?_
  refine JG_q 0 rfl (by kernel_rfl) (q_fld FO_28_0) (k := ?_)
  refine JG_q 1 rfl (by kernel_rfl) (q_loadA Tryz.isAgg25 Tryz.sizeOf25) (k := ?_)
  refine JG_q 3 rfl (by kernel_rfl) (q_fld FO_28_2) (k := ?_)
  refine JG_q 4 rfl (by kernel_rfl) (q_load Tryz.isAgg3) (k := ?_)
  refine JG_br [2, 6] (by kernel_rfl) rfl (List.forall_mem_cons.2 ⟨?_, (List.forall_mem_cons.2 ⟨?_, nofun⟩)⟩)
  ·skip
   refine Z230 ?_
   refine JG_br [6] (by kernel_rfl) rfl (List.forall_mem_cons.2 ⟨?_, nofun⟩)
   ·skip
    refine JO_a rfl noMk (a_alloc (l := [_, _, _, _, _]) Tryz.zeroValue28) (k := fun r143 hr143 => ?_)
    refine Z505 ?_
    refine JL_eqL nE ?_
    refine Z521 ?_
    refine JL_nil ?_
    exact JX_join1 r143 (Is.refl ()) se (List.Perm.refl _)
  ·skip
   refine JO_a rfl noMk (a_alloc (l := [_, _, _, _, _]) Tryz.zeroValue28) (k := fun r143 hr143 => ?_)
   refine JG_br [2] (by kernel_rfl) rfl (List.forall_mem_cons.2 ⟨?_, nofun⟩)
   ·skip
    refine Z230 ?_
    refine Z505 ?_
    refine JL_eqL nE ?_
    refine Z521 ?_
    refine JL_nil ?_
    exact JX_join1 r143 (Is.refl ()) se (List.Perm.refl _)
 intro r143 hJ1
 refine Z403 ?_
 refine Z2 ?_
 refine Z1 ?_
 refine J_block ?_
 refine J_loop8 (σ1 := Nat) (σ2 := Nat) (σ3 := List Tenant) (σ4 := List TA) (σ5 := Option Addr) (σ6 := Nat) (σ7 := Heap) (σ8 := Heap) (fun n_4 i_2 x_3 x_3t x_3a x_3c x_3B x_3R => (x_3B ++ (x_3R ++ ((r143, oc [(vs r_slots_gens_a ((r.slots.gens.take (min r.slots.gens.length 66)).length) r_slots_gens_c), (vs r_slots_used_a ((r.slots.used.take (min r.slots.used.length 66)).length) r_slots_used_c), (vs r_slots_free_a ((r.slots.free.take (min r.slots.free.length 66)).length) r_slots_free_c), (vs x_3a x_3.length x_3c), (vi r.seq)] 28) :: ((r2, oc [(vs none 0 0), (vs none 0 0), (vs none 0 0), (vs none 0 0), (vi 0)] 28) :: ((r1, oc [(vs r_slots_gens_a r.slots.gens.length r_slots_gens_c), (vs r_slots_used_a r.slots.used.length r_slots_used_c), (vs r_slots_free_a r.slots.free.length r_slots_free_c), (vs r_l_a r.l.length r_l_c), (vi r.seq)] 28) :: [])))))) (fun n_4 i_2 x_3 x_3t x_3a x_3c x_3B x_3R => [(1, (Value.pointer (some ⟨r1, 0, none⟩))), (2, (Value.pointer (some ⟨r2, 0, none⟩))), (3, (Value.pointer (some ⟨r143, 0, none⟩))), (4, (vi ((i_2 : Nat) : Int)))]) (fun n_4 i_2 x_3 x_3t x_3a x_3c x_3B x_3R => 8 - i_2 < n_4 ∧ Is (gCut_l0 r (8 + 1) 0 []) (gCut_l0 r n_4 i_2 x_3) ∧ (OwnB eTenant 8 52 x_3a x_3c x_3B (List.zip x_3 x_3t) ∧ DeepB x_3R DT x_3 x_3t) ∧ x_3.length ≤ i_2 ∧ i_2 ≤ 8 ∧ i_2 ≤ r.l.length) (fun n_4 i_2 x_3 x_3t x_3a x_3c x_3B x_3R => n_4) (8 + 1) 0 ([]) ([]) none 0 ([]) ([]) ?_ se (List.Perm.of_eq (by first | rfl | simp only [List.append_assoc, List.cons_append, List.nil_append])) ?_
 ·exact ⟨Nat.lt_succ_self _, Is.refl _, ⟨OwnB.nil, DeepB.nil⟩, (by first | omega | rfl | (simp; done)), (by first | omega | rfl | (simp; done)), (by first | omega | rfl | (simp; done))⟩
 ·rintro (_ | n_4) i_2 x_3 x_3t x_3a x_3c x_3B x_3R ⟨hm6, hF5, ⟨hx_3, hdx_3⟩, hi7, hi8, hi9⟩
  ·omega
  refine J_seq ?_
  refine Z4 ?_
  refine Z324 ?_
  refine Z209 ?_
  refine JL_dec 17 rfl (fun hq1 => ?_) (fun hq1 => ?_)
  rotate_left
  ·refine JL_skips 2 rfl ?_
   refine Z98 ?_
   refine J_exit ?_
   refine Z123 ?_
   refine Z21 ?_
   refine Z143 ?_
   refine JX_ret Tryz.results15 (Res.agg Tryz.isAgg28 Tryz.sizeOf28 rfl me rfl Res.nil) (fun w1 hw1 => ?_)
   exact ⟨x_3a, x_3c, x_3t, (x_3B ++ x_3R), (by rw [((hF.rn0 hJ1).rn2 (hF5.neg hq1)).eq] <;> first | rfl | (simp only [List.length_set] <;> rfl)), (fresh_segs (L := (x_3B ++ x_3R)) (hw1.perm (List.Perm.refl _)) (nA rfl).symm), (by rw [((hF.rn0 hJ1).rn2 (hF5.neg hq1)).eq]; exact ⟨((OwnB.nb (U := (x_3B ++ x_3R)) eTenant_ok hx_3 hdx_3 (hB := sh) (hR := sh)).mono sh), (by have h0 := hx_3.le'; rwa [zip_len hdx_3.1] at h0)⟩), (by rw [((hF.rn0 hJ1).rn2 (hF5.neg hq1)).eq]; first | exact lb | (simp; done))⟩
  refine Z489 ?_
  refine JL_qg q_lss (k := ?_)
  refine JL_q q_pickT (k := ?_)
  refine Z0 ?_
  refine J_dec rfl (fun hq2 => ?_) (fun hq2 => ?_)
  rotate_left
  ·refine J_exit ?_
   refine Z123 ?_
   refine Z21 ?_
   refine Z143 ?_
   refine JX_ret Tryz.results15 (Res.agg Tryz.isAgg28 Tryz.sizeOf28 rfl me rfl Res.nil) (fun w1 hw1 => ?_)
   exact ⟨x_3a, x_3c, x_3t, (x_3B ++ x_3R), (by rw [((hF.rn0 hJ1).rn2 ((hF5.pos hq1).neg hq2)).eq] <;> first | rfl | (simp only [List.length_set] <;> rfl)), (fresh_segs (L := (x_3B ++ x_3R)) (hw1.perm (List.Perm.refl _)) (nA rfl).symm), (by rw [((hF.rn0 hJ1).rn2 ((hF5.pos hq1).neg hq2)).eq]; exact ⟨((OwnB.nb (U := (x_3B ++ x_3R)) eTenant_ok hx_3 hdx_3 (hB := sh) (hR := sh)).mono sh), (by have h0 := hx_3.le'; rwa [zip_len hdx_3.1] at h0)⟩), (by rw [((hF.rn0 hJ1).rn2 ((hF5.pos hq1).neg hq2)).eq]; first | exact lb | (simp; done))⟩
  refine Z14 ?_
  refine Z61 ?_
  refine Z147 ?_
  refine Z481 ?_
  refine JL_q (q_idx (n := r.l.length) Tryz.runUnderlying26 Tryz.sizeOf52 i_2 (SlNJ.of_base DT_ok h_r_l).sl (zip_get h_r_l.1 (by first | exact ix)) (zip_len h_r_l.1)) (k := ?_)
  have hcp3 := (h_r_l.2.2 i_2 (by first | exact ix)).2.2.1
  have hcp4 := (h_r_l.2.2 i_2 (by first | exact ix)).2.2.2
  refine JL_q (q_loadEA Tryz.isAgg52 Tryz.sizeOf52 i_2 (SlNJ.of_base DT_ok h_r_l).sl (zip_get h_r_l.1 (by first | exact ix))) (k := ?_)
  refine JL_a noMk (a_alloc (l := [_, _, _, _, _, _, _, _]) Tryz.zeroValue52) (k := fun r183 hr183 => ?_)
  refine Z180 ?_
  refine Z2 ?_
  refine Z268 ?_
  refine Z268 ?_
  refine Z236 ?_
  refine JL_q (q_subThi (s := ((r.l.getD i_2 default).name)) (min ((r.l.getD i_2 default).name).length 41) Tryz.runUnderlying9 (by omega) (hj := by first | (split <;> omega) | (dsimp only; split <;> omega))) (k := ?_)
  have hsb3 : (((r.l.getD i_2 default).name).take (min ((r.l.getD i_2 default).name).length 41)).length = (min ((r.l.getD i_2 default).name).length 41) := by first | omega | (simp only [List.length_take, List.length_drop, List.length_cons, List.length_nil] <;> omega)
  refine JL_q (q_fld FO_52_1) (k := ?_)
  refine JL_s (w_store (l' := [_, _, _, _, _, _, _, _]) Tryz.sizeOf9) (k := ?_)
  refine Z320 ?_
  refine JL_q (q_fld FO_52_4) (k := ?_)
  refine JL_q (q_load Tryz.isAgg49) (k := ?_)
  refine JL_p (c_callA Tryz.call37) (fun w1 hw1 => lFew8_ok w1 (l := ((r.l.getD i_2 default).rules)) (h_l := (fun w hw => ((SlNJ.of_base DT_ok h_r_l).at (m := i_2) (by first | exact ix) w hw).1) w1 hw1) (k_l := by first | exact lb | decide)) (k := ?_)
  rintro w1_181 e1_181 w2_181 hw1_181 ⟨a1_181, c1_181, B1_181, he_181, hf_181, ho1_181, hl1_181⟩
  refine ⟨_, _, he_181, hw1_181.fresh hf_181, ?_⟩
  refine JL_q (q_fld FO_52_4) (k := ?_)
  refine JL_s (w_store (l' := [_, _, _, _, _, _, _, _]) Tryz.sizeOf49) (k := ?_)
  refine Z320 ?_
  refine JL_q (q_fld FO_52_5) (k := ?_)
  refine Z523 ?_
  refine JL_p (c_callA Tryz.call38) (fun w1 hw1 => cFew_ok w1 (l := ((r.l.getD i_2 default).creds)) (h_l := (fun w hw => ((SlNJ.of_base DT_ok h_r_l).at (m := i_2) (by first | exact ix) w hw).2.1) w1 hw1)) (k := ?_)
  rintro w1_182 e1_182 w2_182 hw1_182 ⟨a1_182, c1_182, B1_182, he_182, hf_182, ho1_182, hl1_182⟩
  refine ⟨_, _, he_182, hw1_182.fresh hf_182, ?_⟩
  refine JL_q (q_fld FO_52_5) (k := ?_)
  refine JL_s (w_store (l' := [_, _, _, _, _, _, _, _]) Tryz.sizeOf50) (k := ?_)
  refine Z0 ?_
  refine Z486 ?_
  refine Z147 ?_
  refine Z517 ?_
  refine JL_a noMk (a_bslice (l := [_, _, _, _, _, _, _, _]) Tryz.runUnderlying26 Tryz.sizeOf52 Tryz.zeroValue52) (k := fun r184 hr184 => ?_)
  refine JL_append (List.zip (x_3 ++ ([(Tenant.mk ((r.l.getD i_2 default).handle) (((r.l.getD i_2 default).name).take (min ((r.l.getD i_2 default).name).length 41)) ((r.l.getD i_2 default).state) ((r.l.getD i_2 default).version) (lFew8 ((r.l.getD i_2 default).rules)) (cFew ((r.l.getD i_2 default).creds)) ((r.l.getD i_2 default).deadline))] : List Tenant)) (x_3t ++ ([⟨a1_181, c1_181, a1_182, c1_182⟩] : List TA))) (List.zip_append hdx_3.1.symm).symm TY_52 Tryz.underlying26 eTenant_ok hx_3 (qb (qd (qd (qb q0)))) (OwnB.nj eTenant_ok (OwnB.mk (xs := List.zip ([(Tenant.mk ((r.l.getD i_2 default).handle) (((r.l.getD i_2 default).name).take (min ((r.l.getD i_2 default).name).length 41)) ((r.l.getD i_2 default).state) ((r.l.getD i_2 default).version) (lFew8 ((r.l.getD i_2 default).rules)) (cFew ((r.l.getD i_2 default).creds)) ((r.l.getD i_2 default).deadline))] : List Tenant) ([⟨a1_181, c1_181, a1_182, c1_182⟩] : List TA)) rfl rfl eTenant_ok) (DeepB.one (B := (B1_181 ++ (B1_182 ++ []))) (D := DT) (x := (Tenant.mk ((r.l.getD i_2 default).handle) (((r.l.getD i_2 default).name).take (min ((r.l.getD i_2 default).name).length 41)) ((r.l.getD i_2 default).state) ((r.l.getD i_2 default).version) (lFew8 ((r.l.getD i_2 default).rules)) (cFew ((r.l.getD i_2 default).creds)) ((r.l.getD i_2 default).deadline))) (t := (⟨a1_181, c1_181, a1_182, c1_182⟩ : TA)) (fun w hw => ⟨(ho1_181.sl eRule_ok (shw hw)), (ho1_182.sl eCred_ok (shw hw)), ho1_181.le', ho1_182.le'⟩)) (hB := sh) (hR := sh)).sl ⟨by first | exact lb, by first | exact lb⟩ (n := x_3.length) (m := 1) (hn := (zip_len hdx_3.1)) (hm := (zip_len (DeepB.one (B := (B1_181 ++ (B1_182 ++ []))) (D := DT) (x := (Tenant.mk ((r.l.getD i_2 default).handle) (((r.l.getD i_2 default).name).take (min ((r.l.getD i_2 default).name).length 41)) ((r.l.getD i_2 default).state) ((r.l.getD i_2 default).version) (lFew8 ((r.l.getD i_2 default).rules)) (cFew ((r.l.getD i_2 default).creds)) ((r.l.getD i_2 default).deadline))) (t := (⟨a1_181, c1_181, a1_182, c1_182⟩ : TA)) (fun w hw => ⟨(ho1_181.sl eRule_ok (shw hw)), (ho1_182.sl eCred_ok (shw hw)), ho1_181.le', ho1_182.le'⟩)).1)) (k := fun ax181 cx181 Bx181 hox181 => ?_)
  have hzl181 : (List.zip (x_3 ++ ([(Tenant.mk ((r.l.getD i_2 default).handle) (((r.l.getD i_2 default).name).take (min ((r.l.getD i_2 default).name).length 41)) ((r.l.getD i_2 default).state) ((r.l.getD i_2 default).version) (lFew8 ((r.l.getD i_2 default).rules)) (cFew ((r.l.getD i_2 default).creds)) ((r.l.getD i_2 default).deadline))] : List Tenant)) (x_3t ++ ([⟨a1_181, c1_181, a1_182, c1_182⟩] : List TA))).length = (x_3 ++ ([(Tenant.mk ((r.l.getD i_2 default).handle) (((r.l.getD i_2 default).name).take (min ((r.l.getD i_2 default).name).length 41)) ((r.l.getD i_2 default).state) ((r.l.getD i_2 default).version) (lFew8 ((r.l.getD i_2 default).rules)) (cFew ((r.l.getD i_2 default).creds)) ((r.l.getD i_2 default).deadline))] : List Tenant)).length := zip_len (by rw [List.length_append, List.length_append, hdx_3.1, (DeepB.one (B := (B1_181 ++ (B1_182 ++ []))) (D := DT) (x := (Tenant.mk ((r.l.getD i_2 default).handle) (((r.l.getD i_2 default).name).take (min ((r.l.getD i_2 default).name).length 41)) ((r.l.getD i_2 default).state) ((r.l.getD i_2 default).version) (lFew8 ((r.l.getD i_2 default).rules)) (cFew ((r.l.getD i_2 default).creds)) ((r.l.getD i_2 default).deadline))) (t := (⟨a1_181, c1_181, a1_182, c1_182⟩ : TA)) (fun w hw => ⟨(ho1_181.sl eRule_ok (shw hw)), (ho1_182.sl eCred_ok (shw hw)), ho1_181.le', ho1_182.le'⟩)).1])
  rw [hzl181]
  have hal181 : (x_3 ++ ([(Tenant.mk ((r.l.getD i_2 default).handle) (((r.l.getD i_2 default).name).take (min ((r.l.getD i_2 default).name).length 41)) ((r.l.getD i_2 default).state) ((r.l.getD i_2 default).version) (lFew8 ((r.l.getD i_2 default).rules)) (cFew ((r.l.getD i_2 default).creds)) ((r.l.getD i_2 default).deadline))] : List Tenant)).length = x_3.length + 1 := List.length_append
  have hdp5 : DeepB (x_3R ++ (B1_181 ++ (B1_182 ++ []))) DT (x_3 ++ ([(Tenant.mk ((r.l.getD i_2 default).handle) (((r.l.getD i_2 default).name).take (min ((r.l.getD i_2 default).name).length 41)) ((r.l.getD i_2 default).state) ((r.l.getD i_2 default).version) (lFew8 ((r.l.getD i_2 default).rules)) (cFew ((r.l.getD i_2 default).creds)) ((r.l.getD i_2 default).deadline))] : List Tenant)) (x_3t ++ ([⟨a1_181, c1_181, a1_182, c1_182⟩] : List TA)) := DeepB.append (hdx_3.mono sh) ((DeepB.one (B := (B1_181 ++ (B1_182 ++ []))) (D := DT) (x := (Tenant.mk ((r.l.getD i_2 default).handle) (((r.l.getD i_2 default).name).take (min ((r.l.getD i_2 default).name).length 41)) ((r.l.getD i_2 default).state) ((r.l.getD i_2 default).version) (lFew8 ((r.l.getD i_2 default).rules)) (cFew ((r.l.getD i_2 default).creds)) ((r.l.getD i_2 default).deadline))) (t := (⟨a1_181, c1_181, a1_182, c1_182⟩ : TA)) (fun w hw => ⟨(ho1_181.sl eRule_ok (shw hw)), (ho1_182.sl eCred_ok (shw hw)), ho1_181.le', ho1_182.le'⟩)).mono sh)
  refine JL_q (q_fld FO_28_1) (k := ?_)
  refine JL_s (w_store (l' := [_, _, _, _, _]) Tryz.sizeOf26) (k := ?_)
  refine JL_nil ?_
  refine Z17 ?_
  refine J_subL _ (sa (sd (sa (sa (sd (sa (sk (sk (sk sz))))))))) ?_
  refine Z454 ?_
  refine Z59 ?_
  refine JX_permL _ (((((((qc (qc (qc (qc (qa (qa q0)))))).trans (qa (qc (qc (qc (qc (qa q0))))))).trans (qa (qa (qc (qc (qc (qc q0))))))).trans (qb (qb (qb (qd q0))))).trans (qd (qb (qb (qb (qd q0)))))).trans (qd (qd (qb (qb (qb (qd q0))))))).trans (qd (qd (qd (qb (qb (qb q0))))))) ?_
  exact JX_inv8 n_4 (i_2 + 1) (x_3 ++ ([(Tenant.mk ((r.l.getD i_2 default).handle) (((r.l.getD i_2 default).name).take (min ((r.l.getD i_2 default).name).length 41)) ((r.l.getD i_2 default).state) ((r.l.getD i_2 default).version) (lFew8 ((r.l.getD i_2 default).rules)) (cFew ((r.l.getD i_2 default).creds)) ((r.l.getD i_2 default).deadline))] : List Tenant)) (x_3t ++ ([⟨a1_181, c1_181, a1_182, c1_182⟩] : List TA)) ax181 cx181 Bx181 (x_3R ++ (B1_181 ++ B1_182)) ⟨by omega, ((hF5.pos hq1).pos hq2), ⟨hox181, (hdp5.mono sh)⟩, (by omega), (by omega), (by omega)⟩ (Nat.lt_succ_self _) se (List.Perm.of_eq (by first | rfl | simp only [List.append_assoc, List.cons_append, List.nil_append]))

end Go.Proofs.YtopjaeoklkpcpaaGreatDoor.Jd

namespace Go.Proofs.YtopjaeoklkpcpaaGreatDoor.Jd
open Go.Proofs
set_option linter.unusedVariables false
set_option linter.unusedSimpArgs false
def SlBC (B : Heap) {α : Type} (enc : α → List Value) (k : Nat) (a : Option Addr) (c : Nat) (xs : List α) : Prop := ∀ w : World, (∀ p ∈ B, w.heap[p.1]? = some p.2) → Sl w enc k a xs ∧ xs.length ≤ c
theorem SlBC.nil {B : Heap} {α : Type} {enc : α → List Value} {k : Nat} {a : Option Addr} {c : Nat} : SlBC B enc k a c ([] : List α) := fun _ _ => ⟨Sl.nil, Nat.zero_le _⟩
def run14 {α1 α2 α3 α4 α5 α6 α7 α8 α9 α10 α11 α12 α13 α14 γ : Type} (v : (α1 × α2 × α3 × α4 × α5 × α6 × α7 × α8 × α9 × α10 × α11 × α12 × α13 × α14)) (g : α1 → α2 → α3 → α4 → α5 → α6 → α7 → α8 → α9 → α10 → α11 → α12 → α13 → α14 → γ) : γ := g v.1 v.2.1 v.2.2.1 v.2.2.2.1 v.2.2.2.2.1 v.2.2.2.2.2.1 v.2.2.2.2.2.2.1 v.2.2.2.2.2.2.2.1 v.2.2.2.2.2.2.2.2.1 v.2.2.2.2.2.2.2.2.2.1 v.2.2.2.2.2.2.2.2.2.2.1 v.2.2.2.2.2.2.2.2.2.2.2.1 v.2.2.2.2.2.2.2.2.2.2.2.2.1 v.2.2.2.2.2.2.2.2.2.2.2.2.2
def Is.xr14 {α1 α2 α3 α4 α5 α6 α7 α8 α9 α10 α11 α12 α13 α14 γ : Type} {A : γ} {x : (α1 × α2 × α3 × α4 × α5 × α6 × α7 × α8 × α9 × α10 × α11 × α12 × α13 × α14)} {g : α1 → α2 → α3 → α4 → α5 → α6 → α7 → α8 → α9 → α10 → α11 → α12 → α13 → α14 → γ} (_ : Is A (run14 x g)) : (α1 × α2 × α3 × α4 × α5 × α6 × α7 × α8 × α9 × α10 × α11 × α12 × α13 × α14) := x
theorem Is.rn14 {α1 α2 α3 α4 α5 α6 α7 α8 α9 α10 α11 α12 α13 α14 γ : Type} {A : γ} {x : (α1 × α2 × α3 × α4 × α5 × α6 × α7 × α8 × α9 × α10 × α11 × α12 × α13 × α14)} {g : α1 → α2 → α3 → α4 → α5 → α6 → α7 → α8 → α9 → α10 → α11 → α12 → α13 → α14 → γ} {u1 : α1} {u2 : α2} {u3 : α3} {u4 : α4} {u5 : α5} {u6 : α6} {u7 : α7} {u8 : α8} {u9 : α9} {u10 : α10} {u11 : α11} {u12 : α12} {u13 : α13} {u14 : α14} (h : Is A (run14 x g)) (hx : Is x (u1, u2, u3, u4, u5, u6, u7, u8, u9, u10, u11, u12, u13, u14)) : Is A (g u1 u2 u3 u4 u5 u6 u7 u8 u9 u10 u11 u12 u13 u14) := by cases hx; exact h
section
variable {P : Program} {rd : Option Nat} {b0 : World} {Mk : List Nat} {N : Nat} {D : List Deferred} {ops : Array Oper} {L V : Heap} {E : Env} {T : Act → World → Prop} {Q : Exit → Act → World → Prop}
def Joined30 {σ1 σ2 σ3 σ4 σ5 σ6 σ7 σ8 σ9 σ10 σ11 σ12 σ13 σ14 σ15 σ16 σ17 σ18 σ19 σ20 σ21 σ22 σ23 σ24 σ25 σ26 σ27 σ28 σ29 σ30 : Type} (b0 : World) (Mk : List Nat) (N : Nat) (D : List Deferred) (Ls : σ1 → σ2 → σ3 → σ4 → σ5 → σ6 → σ7 → σ8 → σ9 → σ10 → σ11 → σ12 → σ13 → σ14 → σ15 → σ16 → σ17 → σ18 → σ19 → σ20 → σ21 → σ22 → σ23 → σ24 → σ25 → σ26 → σ27 → σ28 → σ29 → σ30 → Heap) (Es : σ1 → σ2 → σ3 → σ4 → σ5 → σ6 → σ7 → σ8 → σ9 → σ10 → σ11 → σ12 → σ13 → σ14 → σ15 → σ16 → σ17 → σ18 → σ19 → σ20 → σ21 → σ22 → σ23 → σ24 → σ25 → σ26 → σ27 → σ28 → σ29 → σ30 → Env) (I : σ1 → σ2 → σ3 → σ4 → σ5 → σ6 → σ7 → σ8 → σ9 → σ10 → σ11 → σ12 → σ13 → σ14 → σ15 → σ16 → σ17 → σ18 → σ19 → σ20 → σ21 → σ22 → σ23 → σ24 → σ25 → σ26 → σ27 → σ28 → σ29 → σ30 → Prop) : Act → World → Prop := fun a w => ∃ s1 : σ1, ∃ s2 : σ2, ∃ s3 : σ3, ∃ s4 : σ4, ∃ s5 : σ5, ∃ s6 : σ6, ∃ s7 : σ7, ∃ s8 : σ8, ∃ s9 : σ9, ∃ s10 : σ10, ∃ s11 : σ11, ∃ s12 : σ12, ∃ s13 : σ13, ∃ s14 : σ14, ∃ s15 : σ15, ∃ s16 : σ16, ∃ s17 : σ17, ∃ s18 : σ18, ∃ s19 : σ19, ∃ s20 : σ20, ∃ s21 : σ21, ∃ s22 : σ22, ∃ s23 : σ23, ∃ s24 : σ24, ∃ s25 : σ25, ∃ s26 : σ26, ∃ s27 : σ27, ∃ s28 : σ28, ∃ s29 : σ29, ∃ s30 : σ30, I s1 s2 s3 s4 s5 s6 s7 s8 s9 s10 s11 s12 s13 s14 s15 s16 s17 s18 s19 s20 s21 s22 s23 s24 s25 s26 s27 s28 s29 s30 ∧ Holds N D (Es s1 s2 s3 s4 s5 s6 s7 s8 s9 s10 s11 s12 s13 s14 s15 s16 s17 s18 s19 s20 s21 s22 s23 s24 s25 s26 s27 s28 s29 s30) a ∧ SH b0 Mk (Ls s1 s2 s3 s4 s5 s6 s7 s8 s9 s10 s11 s12 s13 s14 s15 s16 s17 s18 s19 s20 s21 s22 s23 s24 s25 s26 s27 s28 s29 s30) w
theorem J_join30 {σ1 σ2 σ3 σ4 σ5 σ6 σ7 σ8 σ9 σ10 σ11 σ12 σ13 σ14 σ15 σ16 σ17 σ18 σ19 σ20 σ21 σ22 σ23 σ24 σ25 σ26 σ27 σ28 σ29 σ30 : Type} {c : Code} (Ls : σ1 → σ2 → σ3 → σ4 → σ5 → σ6 → σ7 → σ8 → σ9 → σ10 → σ11 → σ12 → σ13 → σ14 → σ15 → σ16 → σ17 → σ18 → σ19 → σ20 → σ21 → σ22 → σ23 → σ24 → σ25 → σ26 → σ27 → σ28 → σ29 → σ30 → Heap) (Es : σ1 → σ2 → σ3 → σ4 → σ5 → σ6 → σ7 → σ8 → σ9 → σ10 → σ11 → σ12 → σ13 → σ14 → σ15 → σ16 → σ17 → σ18 → σ19 → σ20 → σ21 → σ22 → σ23 → σ24 → σ25 → σ26 → σ27 → σ28 → σ29 → σ30 → Env) (I : σ1 → σ2 → σ3 → σ4 → σ5 → σ6 → σ7 → σ8 → σ9 → σ10 → σ11 → σ12 → σ13 → σ14 → σ15 → σ16 → σ17 → σ18 → σ19 → σ20 → σ21 → σ22 → σ23 → σ24 → σ25 → σ26 → σ27 → σ28 → σ29 → σ30 → Prop) (h : J P rd b0 Mk N D L E c (kInv (Joined30 b0 Mk N D Ls Es I) Q)) (k : ∀ (s1 : σ1) (s2 : σ2) (s3 : σ3) (s4 : σ4) (s5 : σ5) (s6 : σ6) (s7 : σ7) (s8 : σ8) (s9 : σ9) (s10 : σ10) (s11 : σ11) (s12 : σ12) (s13 : σ13) (s14 : σ14) (s15 : σ15) (s16 : σ16) (s17 : σ17) (s18 : σ18) (s19 : σ19) (s20 : σ20) (s21 : σ21) (s22 : σ22) (s23 : σ23) (s24 : σ24) (s25 : σ25) (s26 : σ26) (s27 : σ27) (s28 : σ28) (s29 : σ29) (s30 : σ30), I s1 s2 s3 s4 s5 s6 s7 s8 s9 s10 s11 s12 s13 s14 s15 s16 s17 s18 s19 s20 s21 s22 s23 s24 s25 s26 s27 s28 s29 s30 → JX b0 Mk N D (Ls s1 s2 s3 s4 s5 s6 s7 s8 s9 s10 s11 s12 s13 s14 s15 s16 s17 s18 s19 s20 s21 s22 s23 s24 s25 s26 s27 s28 s29 s30) (Es s1 s2 s3 s4 s5 s6 s7 s8 s9 s10 s11 s12 s13 s14 s15 s16 s17 s18 s19 s20 s21 s22 s23 s24 s25 s26 s27 s28 s29 s30) Q .normal) : J P rd b0 Mk N D L E c Q :=
  J_thenI h fun a w ⟨s1, s2, s3, s4, s5, s6, s7, s8, s9, s10, s11, s12, s13, s14, s15, s16, s17, s18, s19, s20, s21, s22, s23, s24, s25, s26, s27, s28, s29, s30, hI, ha, hw⟩ => k s1 s2 s3 s4 s5 s6 s7 s8 s9 s10 s11 s12 s13 s14 s15 s16 s17 s18 s19 s20 s21 s22 s23 s24 s25 s26 s27 s28 s29 s30 hI a w ha hw
theorem JX_join30 {σ1 σ2 σ3 σ4 σ5 σ6 σ7 σ8 σ9 σ10 σ11 σ12 σ13 σ14 σ15 σ16 σ17 σ18 σ19 σ20 σ21 σ22 σ23 σ24 σ25 σ26 σ27 σ28 σ29 σ30 : Type} {Ls : σ1 → σ2 → σ3 → σ4 → σ5 → σ6 → σ7 → σ8 → σ9 → σ10 → σ11 → σ12 → σ13 → σ14 → σ15 → σ16 → σ17 → σ18 → σ19 → σ20 → σ21 → σ22 → σ23 → σ24 → σ25 → σ26 → σ27 → σ28 → σ29 → σ30 → Heap} {Es : σ1 → σ2 → σ3 → σ4 → σ5 → σ6 → σ7 → σ8 → σ9 → σ10 → σ11 → σ12 → σ13 → σ14 → σ15 → σ16 → σ17 → σ18 → σ19 → σ20 → σ21 → σ22 → σ23 → σ24 → σ25 → σ26 → σ27 → σ28 → σ29 → σ30 → Env} {I : σ1 → σ2 → σ3 → σ4 → σ5 → σ6 → σ7 → σ8 → σ9 → σ10 → σ11 → σ12 → σ13 → σ14 → σ15 → σ16 → σ17 → σ18 → σ19 → σ20 → σ21 → σ22 → σ23 → σ24 → σ25 → σ26 → σ27 → σ28 → σ29 → σ30 → Prop} (s1 : σ1) (s2 : σ2) (s3 : σ3) (s4 : σ4) (s5 : σ5) (s6 : σ6) (s7 : σ7) (s8 : σ8) (s9 : σ9) (s10 : σ10) (s11 : σ11) (s12 : σ12) (s13 : σ13) (s14 : σ14) (s15 : σ15) (s16 : σ16) (s17 : σ17) (s18 : σ18) (s19 : σ19) (s20 : σ20) (s21 : σ21) (s22 : σ22) (s23 : σ23) (s24 : σ24) (s25 : σ25) (s26 : σ26) (s27 : σ27) (s28 : σ28) (s29 : σ29) (s30 : σ30) (hI : I s1 s2 s3 s4 s5 s6 s7 s8 s9 s10 s11 s12 s13 s14 s15 s16 s17 s18 s19 s20 s21 s22 s23 s24 s25 s26 s27 s28 s29 s30) (hE : SubE E (Es s1 s2 s3 s4 s5 s6 s7 s8 s9 s10 s11 s12 s13 s14 s15 s16 s17 s18 s19 s20 s21 s22 s23 s24 s25 s26 s27 s28 s29 s30)) (hL : List.Perm L (Ls s1 s2 s3 s4 s5 s6 s7 s8 s9 s10 s11 s12 s13 s14 s15 s16 s17 s18 s19 s20 s21 s22 s23 s24 s25 s26 s27 s28 s29 s30)) : JX b0 Mk N D L E (kInv (Joined30 b0 Mk N D Ls Es I) Q) .normal :=
  fun _ _ ha hw => ⟨s1, s2, s3, s4, s5, s6, s7, s8, s9, s10, s11, s12, s13, s14, s15, s16, s17, s18, s19, s20, s21, s22, s23, s24, s25, s26, s27, s28, s29, s30, hI, ha.sub hE, hw.perm hL⟩
end
end Go.Proofs.YtopjaeoklkpcpaaGreatDoor.Jd

namespace Go.Proofs.YtopjaeoklkpcpaaGreatDoor.Jd
open Go.Proofs
set_option linter.unusedVariables false
set_option linter.unusedSimpArgs false
theorem pj {A B : Heap} (h : A = B := by first | rfl | (simp only [List.append_assoc, List.cons_append, List.nil_append]; done) | (simp only [List.append_assoc, List.cons_append, List.nil_append]; rfl)) : List.Perm A B := List.Perm.of_eq h
def wE (t : TypeId) (b : Bool) (e : Int) : Value := match b with | true => .iface t (Value.agg [(Value.int .i64 e)].toArray) | false => .nilIface
section
variable {P : Program} {b0 : World} {Mk : List Nat} {N : Nat} {D : List Deferred} {L : Heap} {E E2 : Env} {Q : Exit → Act → World → Prop} {e : Exit}
theorem JX_eqE (h : E = E2) (k : JX b0 Mk N D L E2 Q e) : JX b0 Mk N D L E Q e := h ▸ k
end
end Go.Proofs.YtopjaeoklkpcpaaGreatDoor.Jd

namespace Go.Proofs.YtopjaeoklkpcpaaGreatDoor.Jd
open Go.Proofs
open Go.RowKit (Below)
set_option maxRecDepth 100000
set_option maxHeartbeats 8000000
set_option linter.unusedVariables false
set_option linter.unusedSimpArgs false
def gApplyJ (r : Registry) (role : Int) (c : Command) (now : Int) : Registry × Reply := (if (!(gRight r)) = true then ((Registry.mk (Slots.mk ([]) ([]) ([])) ([]) 0), (Reply.mk 150 0 (Handle.mk 0 0) 0 0)) else (if 1000000000000 ≤ r.seq then ((Registry.mk (Slots.mk ([]) ([]) ([])) ([]) 0), (Reply.mk 150 0 (Handle.mk 0 0) 0 0)) else (if now < 0 then ((Registry.mk (Slots.mk ([]) ([]) ([])) ([]) 0), (Reply.mk 150 0 (Handle.mk 0 0) 0 0)) else (if 1000000000000 < now then ((Registry.mk (Slots.mk ([]) ([]) ([])) ([]) 0), (Reply.mk 150 0 (Handle.mk 0 0) 0 0)) else (if (!(roMay role c.verb)) = true then ((xR r), (Reply.mk 151 (r.seq + 1) (Handle.mk 0 0) 0 0)) else (run14 (if c.verb = 1 then (if (!(gIsName c.name)) = true then (true, 152, 0, 0, ([] : Str), 0, 0, [], [], 0, r.slots.gens, r.slots.used, r.slots.free, r.l) else (if ((gPlace (xR r) c.name).2) = true then (true, 153, 0, 0, ([] : Str), 0, 0, [], [], 0, r.slots.gens, r.slots.used, r.slots.free, r.l) else (if ((sTake r.slots).2.2) ≠ 0 then (true, ((sTake r.slots).2.2), 0, 0, ([] : Str), 0, 0, [], [], 0, r.slots.gens, r.slots.used, r.slots.free, r.l) else (if ((cRot ([]) c.key now 0 c.n).2.2) ≠ 0 then (true, ((cRot ([]) c.key now 0 c.n).2.2), 0, 0, ([] : Str), 0, 0, [], [], 0, r.slots.gens, r.slots.used, r.slots.free, r.l) else (false, 0, ((sTake r.slots).2.1.slot), ((sTake r.slots).2.1.gen), c.name, 1, 1, [], ((cRot ([]) c.key now 0 c.n).1), 0, ((sTake r.slots).1.gens), ((sTake r.slots).1.used), ((sTake r.slots).1.free), (putX r.l (Tenant.mk ((sTake r.slots).2.1) c.name 1 1 ([]) ((cRot ([]) c.key now 0 c.n).1) 0))))))) else (if c.verb = 9 then (false, 0, 0, 0, ([] : Str), 0, 0, [], [], 0, r.slots.gens, r.slots.used, r.slots.free, r.l) else (if (!((gPlace (xR r) c.name).2)) = true then (true, 154, 0, 0, ([] : Str), 0, 0, [], [], 0, r.slots.gens, r.slots.used, r.slots.free, r.l) else (run1 (if c.want ≠ 0 then (decide (c.want ≠ ((xA r c).version))) else false) (fun x_19 => (if x_19 = true then (true, 155, 0, 0, ([] : Str), 0, 0, [], [], 0, r.slots.gens, r.slots.used, r.slots.free, r.l) else (run6 (if c.verb = 2 then (if ¬ (((xA r c).state) ≠ 2) then (true, 156, ((xA r c).state), ((xA r c).rules), ((xA r c).creds), ((xA r c).deadline)) else (false, 0, 2, ((xA r c).rules), ((xA r c).creds), 0)) else (if c.verb = 3 then (if ¬ (((xA r c).state) = 2) then (true, 156, ((xA r c).state), ((xA r c).rules), ((xA r c).creds), ((xA r c).deadline)) else (false, 0, 1, ((xA r c).rules), ((xA r c).creds), 0)) else (if c.verb = 4 then (if ¬ (((xA r c).state) = 1) then (true, 156, ((xA r c).state), ((xA r c).rules), ((xA r c).creds), ((xA r c).deadline)) else (if c.n < 1 then (true, 2, 3, ((xA r c).rules), ((xA r c).creds), 0) else (if 1000000000 < c.n then (true, 2, 3, ((xA r c).rules), ((xA r c).creds), 0) else (if 1000000000000 < (now + c.n) then (true, 2, 3, ((xA r c).rules), ((xA r c).creds), 0) else (false, 0, 3, ((xA r c).rules), ((xA r c).creds), (now + c.n)))))) else (if c.verb = 6 then (if ((cRot ((xA r c).creds) c.key now c.n c.m).2.2) ≠ 0 then (true, ((cRot ((xA r c).creds) c.key now c.n c.m).2.2), ((xA r c).state), ((xA r c).rules), ((cRot ((xA r c).creds) c.key now c.n c.m).1), ((xA r c).deadline)) else (false, 0, ((xA r c).state), ((xA r c).rules), ((cRot ((xA r c).creds) c.key now c.n c.m).1), ((xA r c).deadline))) else (if c.verb = 7 then (if 0 ≤ c.at_ then (if ((aclInsert ((xA r c).rules) c.at_ c.rule).2) ≠ 0 then (true, ((aclInsert ((xA r c).rules) c.at_ c.rule).2), ((xA r c).state), ((aclInsert ((xA r c).rules) c.at_ c.rule).1), ((xA r c).creds), ((xA r c).deadline)) else (false, 0, ((xA r c).state), ((aclInsert ((xA r c).rules) c.at_ c.rule).1), ((xA r c).creds), ((xA r c).deadline))) else (if ((aclRemove ((xA r c).rules) (IntKind.wrap .i64 (0 - (c.at_ + 1)))).2) ≠ 0 then (true, ((aclRemove ((xA r c).rules) (IntKind.wrap .i64 (0 - (c.at_ + 1)))).2), ((xA r c).state), ((aclRemove ((xA r c).rules) (IntKind.wrap .i64 (0 - (c.at_ + 1)))).1), ((xA r c).creds), ((xA r c).deadline)) else (false, 0, ((xA r c).state), ((aclRemove ((xA r c).rules) (IntKind.wrap .i64 (0 - (c.at_ + 1)))).1), ((xA r c).creds), ((xA r c).deadline)))) else (if c.verb = 5 then (false, 0, ((xA r c).state), ((xA r c).rules), ((xA r c).creds), ((xA r c).deadline)) else (if c.verb = 8 then (false, 0, ((xA r c).state), ((xA r c).rules), ((xA r c).creds), ((xA r c).deadline)) else (if c.verb = 10 then (false, 0, ((xA r c).state), ((xA r c).rules), ((xA r c).creds), ((xA r c).deadline)) else default)))))))) (fun err_21b err_21 x_22 x_23 x_24 x_25 => (if err_21b = true then (true, err_21, 0, 0, ([] : Str), 0, 0, [], [], 0, r.slots.gens, r.slots.used, r.slots.free, r.l) else (if c.verb = 8 then (false, 0, ((xA r c).handle.slot), ((xA r c).handle.gen), ((xA r c).name), ((xA r c).state), ((xA r c).version), ((xA r c).rules), ((xA r c).creds), ((xA r c).deadline), r.slots.gens, r.slots.used, r.slots.free, r.l) else (if c.verb = 10 then (false, 0, ((xA r c).handle.slot), ((xA r c).handle.gen), ((xA r c).name), ((xA r c).state), ((xA r c).version), ((xA r c).rules), ((xA r c).creds), ((xA r c).deadline), r.slots.gens, r.slots.used, r.slots.free, r.l) else (if c.verb = 5 then (false, 0, ((xA r c).handle.slot), ((xA r c).handle.gen), ((xA r c).name), x_22, (((xA r c).version) + 1), x_23, x_24, x_25, ((sGive r.slots ((xA r c).handle)).1.gens), ((sGive r.slots ((xA r c).handle)).1.used), ((sGive r.slots ((xA r c).handle)).1.free), (delL r.l ((gPlace (xR r) c.name).1).toNat (((gPlace (xR r) c.name).1) + 1).toNat)) else (false, 0, ((xA r c).handle.slot), ((xA r c).handle.gen), ((xA r c).name), x_22, (((xA r c).version) + 1), x_23, x_24, x_25, r.slots.gens, r.slots.used, r.slots.free, (putX r.l (Tenant.mk ((xA r c).handle) ((xA r c).name) x_22 (((xA r c).version) + 1) x_23 x_24 x_25))))))))))))))) (fun err_1b err_1 x_2 x_3 x_4 x_5 x_6 x_7 x_8 x_9 x_10 x_11 x_12 x_13 => (if err_1b = true then (run0 () ((xR r), (Reply.mk err_1 (r.seq + 1) (Handle.mk 0 0) 0 0))) else (run0 () ((Registry.mk (Slots.mk x_10 x_11 x_12) x_13 (r.seq + 1)), (Reply.mk 0 (r.seq + 1) (Handle.mk x_2 x_3) x_6 x_5)))))))))))
end Go.Proofs.YtopjaeoklkpcpaaGreatDoor.Jd

namespace Go.Proofs.YtopjaeoklkpcpaaGreatDoor.Jd
set_option linter.unusedVariables false
set_option linter.unusedSimpArgs false
theorem getD_mem' {α : Type} [Inhabited α] {xs : List α} {k : Nat} (h : k < xs.length) : xs.getD k default ∈ xs := by
  rw [List.getD_eq_getElem?_getD, List.getElem?_eq_getElem h]; exact List.getElem_mem h
theorem mem_getD' {α : Type} [Inhabited α] {xs : List α} {x : α} (h : x ∈ xs) : ∃ k, k < xs.length ∧ xs.getD k default = x := by
  obtain ⟨k, hk, rfl⟩ := List.getElem_of_mem h
  exact ⟨k, hk, by rw [List.getD_eq_getElem?_getD, List.getElem?_eq_getElem hk]; rfl⟩
theorem aclRight_l0_eq (l : List Rule) : ∀ n i, l.length < i + n → i ≤ l.length → (aclRight_l0 l n i = .ok l.length ∧ ∀ k, i ≤ k → k < l.length → aclOne (l.getD k default) = true) ∨ (aclRight_l0 l n i = .error false ∧ ∃ k, k < l.length ∧ aclOne (l.getD k default) = false)
  | 0, i, h1, h2 => by omega
  | n + 1, i, h1, h2 => by
    unfold aclRight_l0
    by_cases hi : i < l.length
    · rw [if_pos (by omega)]
      cases hr : aclOne (l.getD i default) with
      | false => exact .inr ⟨by simp, i, hi, hr⟩
      | true =>
        rw [if_neg (by simp)]
        rcases aclRight_l0_eq l n (i + 1) (by omega) (by omega) with ⟨h3, h4⟩ | ⟨h3, k, h4⟩
        · refine .inl ⟨h3, fun k h5 h6 => ?_⟩
          by_cases e : k = i
          · subst e; exact hr
          · exact h4 k (by omega) h6
        · exact .inr ⟨h3, k, h4⟩
    · rw [if_neg (by omega)]
      exact .inl ⟨by congr 1; omega, fun k h5 h6 => by omega⟩
theorem aclRight_iff {l : List Rule} : aclRight l = true ↔ l.length ≤ 16 ∧ ∀ r ∈ l, aclOne r = true := by
  unfold aclRight
  by_cases hl : l.length ≤ 16
  · rw [if_pos (by omega)]
    rcases aclRight_l0_eq l (l.length + 1) 0 (by omega) (by omega) with ⟨h3, h4⟩ | ⟨h3, k, h4, h5⟩
    · rw [h3]
      refine ⟨fun _ => ⟨hl, fun r hr => ?_⟩, fun _ => rfl⟩
      obtain ⟨k, hk, rfl⟩ := mem_getD' hr
      exact h4 k (Nat.zero_le _) hk
    · rw [h3]
      refine ⟨fun h => (by cases h), fun h => ?_⟩
      have := h.2 _ (getD_mem' h4)
      rw [h5] at this; cases this
  · rw [if_neg (by omega)]
    exact ⟨fun h => (by cases h), fun h => absurd h.1 hl⟩
theorem insert_cases (l : List Rule) (a : Int) (r : Rule) : ((aclInsert l a r).2 ≠ 0 ∧ (aclInsert l a r).1 = []) ∨ (aclRight l = true ∧ aclOne r = true ∧ 0 ≤ a ∧ a ≤ l.length ∧ l.length < 16 ∧ aclInsert l a r = (insL l a.toNat r, 0) ∧ aclRight (insL l a.toNat r) = true) := by
  unfold aclInsert
  cases hr : aclRight l with
  | false => left; simp
  | true =>
    cases ho : aclOne r with
    | false => left; simp
    | true =>
      by_cases h1 : a < 0
      · left; simp [h1]
      · by_cases h2 : (l.length : Int) < a
        · left; simp [h1, h2]
        · by_cases h3 : 16 ≤ (l.length : Int)
          · left; rw [if_neg (by simp), if_neg (by simp), if_neg h1, if_neg h2, if_pos h3]; simp
          · right
            refine ⟨rfl, rfl, by omega, by omega, by omega, by rw [if_neg (by simp), if_neg (by simp), if_neg h1, if_neg h2, if_neg h3], ?_⟩
            rw [aclRight_iff] at hr ⊢
            refine ⟨by rw [insL_length (by omega)]; omega, fun x hx => ?_⟩
            simp only [insL, List.mem_append, List.mem_cons] at hx
            rcases hx with hx | rfl | hx
            · exact hr.2 x (List.mem_of_mem_take hx)
            · exact ho
            · exact hr.2 x (List.mem_of_mem_drop hx)
end Go.Proofs.YtopjaeoklkpcpaaGreatDoor.Jd

namespace Go.Proofs.YtopjaeoklkpcpaaGreatDoor.Jd
set_option linter.unusedVariables false
set_option linter.unusedSimpArgs false
def rt (r : Registry) : Int := if gRight r = true then 1 else 0
theorem rt_iff {r : Registry} : rt r = 1 ↔ gRight r = true := by
  unfold rt
  split
  · simp_all
  · simp_all
theorem gFind_ver (r : Registry) (name : Str) : rt r = 1 → 0 ≤ (gFind r name).1.version ∧ (gFind r name).1.version ≤ 1000000000000 := fun h => by
  have hr := rt_iff.1 h
  unfold gFind
  split
  · simp
  · rename_i hp
    have hp2 : (gPlace r name).2 = true := by simpa using hp
    have h1 := gPlace_t hp2
    have h2 := gRight_ver hr (i := (gPlace r name).1.toNat) (by omega)
    have h3 := gRight_t hr
    simp only
    omega
def abd (r : Registry) (c : Command) (now : Int) (x : Registry × Reply) : Prop :=
  x.2.err ≠ 150 → rt r = 1 ∧ 0 ≤ now ∧ now ≤ 1000000000000 ∧ 0 ≤ r.seq ∧ r.seq < 1000000000000 ∧ x.1.seq = r.seq + 1 ∧ (x.2.err = 0 → c.verb = 4 → 1 ≤ c.n ∧ c.n ≤ 1000000000) ∧ (x.2.err = 0 → 0 ≤ x.2.version ∧ x.2.version ≤ 1000000000001)
theorem gApply_bd (r : Registry) (role : Int) (c : Command) (now : Int) : (gApply r role c now).2.err ≠ 150 → rt r = 1 ∧ 0 ≤ now ∧ now ≤ 1000000000000 ∧ 0 ≤ r.seq ∧ r.seq < 1000000000000 ∧ (gApply r role c now).1.seq = r.seq + 1 ∧ ((gApply r role c now).2.err = 0 → c.verb = 4 → 1 ≤ c.n ∧ c.n ≤ 1000000000) ∧ ((gApply r role c now).2.err = 0 → 0 ≤ (gApply r role c now).2.version ∧ (gApply r role c now).2.version ≤ 1000000000001) := by
  show abd r c now (gApply r role c now)
  unfold gApply
  by_cases h1 : gRight r = true
  · have hrt := rt_iff.2 h1
    have hb := gRight_t h1
    have hv : (gPlace (xR r) c.name).2 = true → 1 ≤ (xA r c).version ∧ (xA r c).version ≤ r.seq := fun hp => by
      have h2 := gPlace_t hp
      exact gRight_ver h1 (i := xN r c) (by
        have e1 : (gPlace (xR r) c.name).1.toNat = xN r c := rfl
        have e2 : (xR r).l.length = r.l.length := rfl
        omega)
    rw [h1]
    simp only [run0, run1, Bool.not_true, Bool.false_eq_true, if_false]
    by_cases h2 : 1000000000000 ≤ r.seq
    · rw [if_pos h2]; intro h; exact absurd rfl h
    rw [if_neg h2]
    by_cases h3 : now < 0
    · rw [if_pos h3]; intro h; exact absurd rfl h
    rw [if_neg h3]
    by_cases h4 : 1000000000000 < now
    · rw [if_pos h4]; intro h; exact absurd rfl h
    rw [if_neg h4]
    have key : ∀ (x : Registry × Reply), x.1.seq = r.seq + 1 → (x.2.err = 0 → c.verb = 4 → 1 ≤ c.n ∧ c.n ≤ 1000000000) → (x.2.err = 0 → 0 ≤ x.2.version ∧ x.2.version ≤ 1000000000001) → abd r c now x := fun x e1 e2 e3 h => ⟨hrt, by omega, by omega, by omega, by omega, e1, e2, e3⟩
    have bad : ∀ e : Int, e ≠ 0 → abd r c now (xR r, Reply.mk e (r.seq + 1) (Handle.mk 0 0) 0 0) := fun e he => key _ rfl (fun h5 => absurd h5 he) (fun h5 => absurd h5 he)
    by_cases hm : (!roMay role c.verb) = true
    · rw [if_pos hm]; exact bad _ (by decide)
    rw [if_neg hm]
    by_cases v1 : c.verb = 1
    · rw [if_pos v1]
      refine Z524 ?_
      refine Z524 ?_
      by_cases e1 : (sTake r.slots).2.2 ≠ 0
      · rw [if_pos e1]; exact bad _ e1
      rw [if_neg e1]
      by_cases e2 : (cRot [] c.key now 0 c.n).2.2 ≠ 0
      · rw [if_pos e2]; exact bad _ e2
      rw [if_neg e2]
      exact key _ rfl (fun _ h6 => by omega) (fun _ => by simp only; omega)
    rw [if_neg v1]
    by_cases v9 : c.verb = 9
    · rw [if_pos v9]; exact key _ rfl (fun _ h6 => by omega) (fun _ => by simp only; omega)
    rw [if_neg v9]
    cases hp : (gPlace (xR r) c.name).2 with
    | false => simp only [Bool.not_false, if_true]; exact bad _ (by decide)
    | true =>
      have hv' := hv hp
      simp only [Bool.not_true, Bool.false_eq_true, if_false]
      refine Z524 ?_
      have good : ∀ (s : Slots) (l : List Tenant) (h : Handle) (st : Int), c.verb ≠ 4 → abd r c now (Registry.mk s l (r.seq + 1), Reply.mk 0 (r.seq + 1) h ((xA r c).version + 1) st) := fun s l h st h4 => key _ rfl (fun _ h6 => absurd h6 h4) (fun _ => by simp only; omega)
      have look : ∀ (s : Slots) (l : List Tenant) (h : Handle) (st : Int), c.verb ≠ 4 → abd r c now (Registry.mk s l (r.seq + 1), Reply.mk 0 (r.seq + 1) h (xA r c).version st) := fun s l h st h4 => key _ rfl (fun _ h6 => absurd h6 h4) (fun _ => by simp only; omega)
      by_cases v2 : c.verb = 2
      · rw [if_pos v2]; exact ite_ind (P := abd r c now) (bad _ (by decide)) (good _ _ _ _ (by omega))
      rw [if_neg v2]
      by_cases v3 : c.verb = 3
      · rw [if_pos v3]; exact ite_ind (P := abd r c now) (bad _ (by decide)) (good _ _ _ _ (by omega))
      rw [if_neg v3]
      by_cases v4 : c.verb = 4
      · rw [if_pos v4]
        refine Z524 ?_
        by_cases n1 : c.n < 1
        · rw [if_pos n1]; exact bad _ (by decide)
        rw [if_neg n1]
        by_cases n2 : 1000000000 < c.n
        · rw [if_pos n2]; exact bad _ (by decide)
        rw [if_neg n2]
        refine Z524 ?_
        exact key _ rfl (fun _ _ => by omega) (fun _ => by simp only; omega)
      rw [if_neg v4]
      by_cases v6 : c.verb = 6
      · rw [if_pos v6]
        by_cases e1 : (cRot (xA r c).creds c.key now c.n c.m).2.2 ≠ 0
        · rw [if_pos e1]; exact bad _ e1
        rw [if_neg e1]; exact good _ _ _ _ v4
      rw [if_neg v6]
      by_cases v7 : c.verb = 7
      · rw [if_pos v7]
        by_cases a0 : 0 ≤ c.at_
        · rw [if_pos a0]
          by_cases e1 : (aclInsert (xA r c).rules c.at_ c.rule).2 ≠ 0
          · rw [if_pos e1]; exact bad _ e1
          rw [if_neg e1]; exact good _ _ _ _ v4
        · rw [if_neg a0]
          by_cases e1 : (aclRemove (xA r c).rules (IntKind.wrap .i64 (0 - (c.at_ + 1)))).2 ≠ 0
          · rw [if_pos e1]; exact bad _ e1
          rw [if_neg e1]; exact good _ _ _ _ v4
      rw [if_neg v7]
      by_cases v5 : c.verb = 5
      · rw [if_pos v5]; exact good _ _ _ _ v4
      rw [if_neg v5]
      by_cases v8 : c.verb = 8
      · rw [if_pos v8]; exact look _ _ _ _ v4
      rw [if_neg v8]
      by_cases v10 : c.verb = 10
      · rw [if_pos v10]; exact look _ _ _ _ v4
      rw [if_neg v10]
      have := roMay_t (n := role) (v := c.verb) (by simpa using hm)
      omega
  · have h1' : gRight r = false := by simpa using h1
    rw [h1']
    intro h; exact absurd rfl h
end Go.Proofs.YtopjaeoklkpcpaaGreatDoor.Jd

namespace Go.Proofs.YtopjaeoklkpcpaaGreatDoor.Jd
set_option linter.unusedVariables false
set_option linter.unusedSimpArgs false
theorem sRight_l0_spec (s : Slots) : ∀ n i, s.gens.length < i + n → i ≤ s.gens.length → (∃ j, sRight_l0 s n i = .ok j ∧ ∀ k, i ≤ k → k < s.gens.length → 0 ≤ s.gens.getD k default ∧ s.gens.getD k default ≤ 1000000000) ∨ (sRight_l0 s n i = .error false ∧ ∃ k, i ≤ k ∧ k < s.gens.length ∧ ¬ (0 ≤ s.gens.getD k default ∧ s.gens.getD k default ≤ 1000000000))
  | 0, i, h1, h2 => by omega
  | n + 1, i, h1, h2 => by
    unfold sRight_l0
    have h0 : (0 : Int) ≤ ((i : Nat) : Int) := by omega
    simp only [h0, not_true_eq_false, not_false_eq_true, if_true]
    by_cases hi : i < s.gens.length
    · rw [if_pos (by omega)]
      by_cases a : s.gens.getD i default < 0
      · rw [if_pos a]; exact .inr ⟨rfl, i, Nat.le_refl _, hi, by omega⟩
      rw [if_neg a]
      by_cases b : 1000000000 < s.gens.getD i default
      · rw [if_pos b]; exact .inr ⟨rfl, i, Nat.le_refl _, hi, by omega⟩
      rw [if_neg b]
      rcases sRight_l0_spec s n (i + 1) (by omega) (by omega) with ⟨j, h3, h4⟩ | ⟨h3, k, h4, h5⟩
      · refine .inl ⟨j, h3, fun k h5 h6 => ?_⟩
        by_cases e : k = i
        · subst e; omega
        · exact h4 k (by omega) h6
      · exact .inr ⟨h3, k, by omega, h5⟩
    · rw [if_neg (by omega)]; exact .inl ⟨i, rfl, fun k h3 h4 => by omega⟩
theorem sRight_l6_spec (s : Slots) (a b : Nat) (l : List Int) : ∀ n i x, s.used.length < i + n → i ≤ s.used.length → (sRight_l6 s a b l n i x).2 = x - (((s.used.drop i).count true : Nat) : Int)
  | 0, i, x, h1, h2 => by omega
  | n + 1, i, x, h1, h2 => by
    unfold sRight_l6
    by_cases hi : i < s.used.length
    · rw [if_pos (by omega), drop_cons' hi]
      by_cases hu : s.used.getD i default = true
      · rw [if_pos hu, sRight_l6_spec s a b l n (i + 1) _ (by omega) (by omega), hu, List.count_cons_self]; omega
      · have hf : s.used.getD i default = false := by simpa using hu
        rw [if_neg hu, sRight_l6_spec s a b l n (i + 1) _ (by omega) (by omega), hf, List.count_cons_of_ne (by decide)]
    · rw [if_neg (by omega), List.drop_eq_nil_of_le (by omega)]; simp
def FreeOk (s : Slots) (x : Int) : Prop := 0 ≤ x ∧ x < ((s.used.length : Nat) : Int) ∧ s.used.getD x.toNat default = false
theorem sRight_l5_spec (s : Slots) (a : Nat) : ∀ n i acc, s.free.length < i + n → i ≤ s.free.length → (∃ j, sRight_l5 s a n i acc = .ok (j, acc ++ s.free.drop i) ∧ (∀ x ∈ s.free.drop i, FreeOk s x ∧ x ∉ acc) ∧ (s.free.drop i).Nodup) ∨ (sRight_l5 s a n i acc = .error false ∧ ¬ ((∀ x ∈ s.free.drop i, FreeOk s x ∧ x ∉ acc) ∧ (s.free.drop i).Nodup))
  | 0, i, acc, h1, h2 => by omega
  | n + 1, i, acc, h1, h2 => by
    unfold sRight_l5
    by_cases hi : i < s.free.length
    · rw [if_pos (by omega), drop_cons' hi]
      generalize s.free.getD i default = x
      have bad : ¬ (FreeOk s x ∧ x ∉ acc) → ¬ ((∀ y ∈ x :: s.free.drop (i + 1), FreeOk s y ∧ y ∉ acc) ∧ (x :: s.free.drop (i + 1)).Nodup) := fun h h2 => h (h2.1 x List.mem_cons_self)
      by_cases c1 : x < 0
      · rw [if_pos c1]; exact .inr ⟨rfl, bad fun h => by have := h.1.1; omega⟩
      rw [if_neg c1]
      by_cases c2 : ((s.used.length : Nat) : Int) ≤ x
      · rw [if_pos c2]; exact .inr ⟨rfl, bad fun h => by have := h.1.2.1; omega⟩
      rw [if_neg c2]
      by_cases c3 : s.used.getD x.toNat default = true
      · rw [if_pos c3]; exact .inr ⟨rfl, bad fun h => by have := h.1.2.2; rw [c3] at this; cases this⟩
      rw [if_neg c3]
      by_cases c4 : x ∈ acc
      · rw [if_pos c4]; exact .inr ⟨rfl, bad fun h => h.2 c4⟩
      rw [if_neg c4]
      have hx : FreeOk s x := ⟨by omega, by omega, by simpa using c3⟩
      rcases sRight_l5_spec s a n (i + 1) (acc ++ [x]) (by omega) (by omega) with ⟨j, h3, h4, h5⟩ | ⟨h3, h4⟩
      · refine .inl ⟨j, by rw [h3]; simp, fun y hy => ?_, ?_⟩
        · rcases List.mem_cons.1 hy with rfl | hy
          · exact ⟨hx, c4⟩
          · exact ⟨(h4 y hy).1, fun h => (h4 y hy).2 (List.mem_append_left _ h)⟩
        · exact List.nodup_cons.2 ⟨fun h => (h4 x h).2 (by simp), h5⟩
      · refine .inr ⟨h3, fun ⟨g1, g2⟩ => h4 ⟨fun y hy => ⟨(g1 y (List.mem_cons_of_mem _ hy)).1, fun h => ?_⟩, (List.nodup_cons.1 g2).2⟩⟩
        rcases List.mem_append.1 h with h | h
        · exact (g1 y (List.mem_cons_of_mem _ hy)).2 h
        · have e : y = x := by simpa using h
          exact (List.nodup_cons.1 g2).1 (e ▸ hy)
    · rw [if_neg (by omega), List.drop_eq_nil_of_le (by omega)]
      exact .inl ⟨i, by simp, by simp, List.nodup_nil⟩
theorem sRight_iff {s : Slots} : sRight s = true ↔ (1 ≤ s.gens.length ∧ s.gens.length ≤ 64 ∧ s.used.length = s.gens.length) ∧ (∀ x ∈ s.gens, 0 ≤ x ∧ x ≤ 1000000000) ∧ SlT.freeD s.used s.free ∧ (s.gens.length : Int) - (SlT.cntU s.used : Int) = (s.free.length : Int) := by
  unfold sRight
  by_cases h1 : 1 ≤ s.gens.length
  rotate_left
  · rw [if_neg (by omega)]; exact ⟨nofun, fun h => absurd h.1.1 h1⟩
  rw [if_pos (by omega)]
  by_cases h2 : s.gens.length ≤ 64
  rotate_left
  · rw [if_neg (by omega)]; exact ⟨nofun, fun h => absurd h.1.2.1 h2⟩
  rw [if_pos (by omega)]
  by_cases h3 : s.used.length = s.gens.length
  rotate_left
  · rw [if_pos (by omega)]; exact ⟨nofun, fun h => absurd h.1.2.2 h3⟩
  rw [if_neg (by omega)]
  rcases sRight_l0_spec s (s.gens.length + 1) 0 (by omega) (by omega) with ⟨j, e, hg⟩ | ⟨e, k, _, hk, hb⟩
  rotate_left
  · rw [e]
    simp only [outc1]
    refine ⟨nofun, fun h => absurd (h.2.1 _ ?_) hb⟩
    rw [List.getD_eq_getElem?_getD, List.getElem?_eq_getElem hk]; exact List.getElem_mem hk
  rw [e]
  simp only [outc1]
  have hgens : ∀ x ∈ s.gens, 0 ≤ x ∧ x ≤ 1000000000 := fun x hx => by
    obtain ⟨k, hk, rfl⟩ := List.getElem_of_mem hx
    have := hg k (by omega) hk
    simpa [List.getD, hk] using this
  rcases sRight_l5_spec s j (s.free.length + 1) 0 [] (by omega) (by omega) with ⟨j2, e2, hf, hn⟩ | ⟨e2, hf⟩
  rotate_left
  · rw [e2]
    simp only [outc2]
    refine ⟨nofun, fun h => absurd ?_ hf⟩
    simpa [SlT.freeD, FreeOk] using h.2.2.1
  rw [e2]
  simp only [outc2]
  have h6 := sRight_l6_spec s j j2 ([] ++ s.free.drop 0) (s.used.length + 1) 0 ((s.gens.length : Nat) : Int) (by omega) (by omega)
  generalize sRight_l6 s j j2 ([] ++ s.free.drop 0) (s.used.length + 1) 0 ((s.gens.length : Nat) : Int) = y at h6
  obtain ⟨y1, y2⟩ := y
  simp only [List.drop_zero, List.nil_append] at h6
  simp only [run2, List.drop_zero, List.nil_append]
  rw [SlT.cntU_eq]
  have hfr : SlT.freeD s.used s.free := by simpa [SlT.freeD, FreeOk] using (⟨hf, hn⟩ : _ ∧ _)
  by_cases hc : y2 = ((s.free.length : Nat) : Int)
  · rw [if_neg (by simp [hc])]
    exact ⟨fun _ => ⟨⟨h1, h2, h3⟩, hgens, hfr, by omega⟩, fun _ => rfl⟩
  · rw [if_pos hc]
    exact ⟨nofun, fun h => absurd (by omega) hc⟩
theorem sRight_eq (s : Slots) : sRight s = SlT.rightB s.gens s.used s.free := by rw [Bool.eq_iff_iff, sRight_iff, SlT.rightB_iff]
theorem sRight_rs (s : Slots) : sRight s = rsRight s := by rw [sRight_eq, rsRight_eq]
theorem sTake_rs (s : Slots) : sTake s = rsTake s := by
  unfold sTake rsTake
  rw [sRight_rs]
theorem sAll_l0_eq (s : Slots) (hl : s.used.length = s.gens.length) : ∀ n i out, s.used.length < i + n → i ≤ s.used.length → ((sAll_l0 s n i out).2).map hT = out.map hT ++ (SlT.usedIx i (s.used.drop i)).map fun j : Nat => ((j : Int), s.gens.getD j default)
  | 0, i, out, h1, h2 => by omega
  | n + 1, i, out, h1, h2 => by
    unfold sAll_l0
    by_cases hi : i < s.used.length
    · rw [if_pos (by omega), drop_cons' hi]
      cases hb : s.used.getD i default
      · rw [if_neg (by simp), sAll_l0_eq s hl n (i + 1) _ (by omega) (by omega)]
        simp [SlT.usedIx]
      · rw [if_pos rfl, sAll_l0_eq s hl n (i + 1) _ (by omega) (by omega)]
        simp [SlT.usedIx, hT]
    · rw [if_neg (by omega), List.drop_eq_nil_of_le (by omega)]
      simp [SlT.usedIx]
theorem sAll_eq (s : Slots) : (sAll s).map hT = SlT.allD s.gens s.used s.free := by
  unfold sAll SlT.allD
  rw [sRight_eq]
  cases h : SlT.rightB s.gens s.used s.free with
  | false => simp
  | true =>
    have hl := (SlT.rightB_iff.1 h).1.2.2
    have e := sAll_l0_eq s hl (s.used.length + 1) 0 [] (by omega) (by omega)
    simp only [Bool.not_true, Bool.false_eq_true, if_false, if_true, SlT.hnd]
    generalize sAll_l0 s (s.used.length + 1) 0 [] = y at e
    obtain ⟨y1, y2⟩ := y
    simpa [run2] using e
theorem map_hT_inj {a b : List Handle} (h : a.map hT = b.map hT) : a = b := by
  induction a generalizing b with
  | nil => cases b with
    | nil => rfl
    | cons x y => simp at h
  | cons x y ih => cases b with
    | nil => simp at h
    | cons z w =>
      simp only [List.map_cons, List.cons.injEq] at h
      rw [hT_inj h.1, ih h.2]
theorem sValid_l0_iff (s : Slots) (h : Handle) : ∀ n i, (sAll s).length < i + n → i ≤ (sAll s).length → (outc1 (sValid_l0 s h n i) (fun r => r) (fun _ => false) = true ↔ h ∈ (sAll s).drop i)
  | 0, i, h1, h2 => by omega
  | n + 1, i, h1, h2 => by
    unfold sValid_l0
    by_cases hi : i < (sAll s).length
    · rw [if_pos (by omega), drop_cons' hi]
      generalize (sAll s).getD i default = x
      by_cases hx : x.slot = h.slot ∧ x.gen = h.gen
      · have e : x = h := hT_inj (by simp [hT, hx.1, hx.2])
        rw [if_pos hx, e]; simp [outc1]
      · rw [if_neg hx, sValid_l0_iff s h n (i + 1) (by omega) (by omega), List.mem_cons]
        exact ⟨.inr, fun h3 => h3.resolve_left fun e => hx (by rw [e]; exact ⟨rfl, rfl⟩)⟩
    · rw [if_neg (by omega), List.drop_eq_nil_of_le (by omega)]; simp [outc1]
theorem sValid_iff (s : Slots) (h : Handle) : sValid s h = true ↔ h ∈ sAll s := sValid_l0_iff s h _ 0 (by omega) (by omega)
theorem mem_map_hT {h : Handle} {l : List Handle} : hT h ∈ l.map hT ↔ h ∈ l := by
  constructor
  · intro e
    obtain ⟨x, hx, e2⟩ := List.mem_map.1 e
    exact hT_inj e2 ▸ hx
  · exact fun e => List.mem_map.2 ⟨h, e, rfl⟩
theorem sValid_rs (s : Slots) (h : Handle) : sValid s h = rsValid s h := by
  rw [Bool.eq_iff_iff, sValid_iff, rsValid_eq0, SlT.rValid_eq, ← mem_map_hT, sAll_eq, decide_eq_true_eq]
  exact Iff.rfl
theorem sGive_rs (s : Slots) (h : Handle) : sGive s h = rsGive s h := by
  unfold sGive rsGive
  rw [sRight_rs, sValid_rs]
end Go.Proofs.YtopjaeoklkpcpaaGreatDoor.Jd

namespace Go.Proofs.YtopjaeoklkpcpaaGreatDoor.Jd
set_option linter.unusedVariables false
set_option linter.unusedSimpArgs false
def Up (l : List Handle) : Prop := l.Pairwise fun a b => a.slot < b.slot
theorem Up.ext : ∀ {a b : List Handle}, Up a → Up b → (∀ h, h ∈ a ↔ h ∈ b) → a = b
  | [], [], _, _, _ => rfl
  | [], y :: ys, _, _, h => absurd ((h y).2 List.mem_cons_self) (by simp)
  | x :: xs, [], _, _, h => absurd ((h x).1 List.mem_cons_self) (by simp)
  | x :: xs, y :: ys, ha, hb, h => by
    obtain ⟨a1, a2⟩ := List.pairwise_cons.1 ha
    obtain ⟨b1, b2⟩ := List.pairwise_cons.1 hb
    have e : x = y := by
      rcases List.mem_cons.1 ((h x).1 List.mem_cons_self) with e | h1
      · exact e
      rcases List.mem_cons.1 ((h y).2 List.mem_cons_self) with e | h2
      · exact e.symm
      have := b1 x h1
      have := a1 y h2
      omega
    subst e
    refine congrArg _ (Up.ext a2 b2 fun z => ⟨fun hz => ?_, fun hz => ?_⟩)
    · rcases List.mem_cons.1 ((h z).1 (List.mem_cons_of_mem _ hz)) with e | h3
      · subst e; have := a1 z hz; omega
      · exact h3
    · rcases List.mem_cons.1 ((h z).2 (List.mem_cons_of_mem _ hz)) with e | h3
      · subst e; have := b1 z hz; omega
      · exact h3
theorem Up.nodup {l : List Handle} (h : Up l) : l.Nodup := h.imp fun h e => by subst e; omega
theorem Up.inj {l : List Handle} (h : Up l) {x y : Handle} (hx : x ∈ l) (hy : y ∈ l) (e : x.slot = y.slot) : x = y := by
  induction l with
  | nil => cases hx
  | cons z w ih =>
    obtain ⟨a1, a2⟩ := List.pairwise_cons.1 h
    rcases List.mem_cons.1 hx with hx | hx
    · rcases List.mem_cons.1 hy with hy | hy
      · rw [hx, hy]
      · have := a1 y hy; subst hx; omega
    · rcases List.mem_cons.1 hy with hy | hy
      · have := a1 x hx; subst hy; omega
      · exact ih a2 hx hy
theorem mem_sAll {s : Slots} (h : sRight s = true) {x : Handle} : x ∈ sAll s ↔ 0 ≤ x.slot ∧ s.used[x.slot.toNat]? = some true ∧ s.gens.getD x.slot.toNat default = x.gen := by
  rw [← mem_map_hT, sAll_eq]
  exact SlT.allD_mem (by rw [← sRight_eq]; exact h)
theorem sAll_bad {s : Slots} (h : sRight s = false) : sAll s = [] := map_hT_inj (by rw [sAll_eq, SlT.all_no (by rw [← sRight_eq]; exact h)]; rfl)
theorem sAll_up (s : Slots) : Up (sAll s) := by
  have e : Up (sAll s) ↔ ((sAll s).map hT).Pairwise fun a b => a.1 < b.1 := by rw [List.pairwise_map]; exact Iff.rfl
  rw [e, sAll_eq]
  unfold SlT.allD
  split
  · unfold SlT.hnd
    rw [List.pairwise_map]
    refine (SlT.usedIx_sorted s.used 0).imp fun h => ?_
    simp only; omega
  · exact List.Pairwise.nil
/-- What a slot that is taken is. -/
structure Took (s s' : Slots) (h : Handle) : Prop where
  was : sRight s = true
  right : sRight s' = true
  slot : ∀ x ∈ sAll s, x.slot ≠ h.slot
  all : ∀ x, x ∈ sAll s' ↔ x ∈ sAll s ∨ x = h
  dead : ∀ p q : Int, SlT.Dead p q s.gens s.used → SlT.Dead p q s'.gens s'.used ∧ ¬ (h.slot = p ∧ h.gen = q)
theorem take_ok {s : Slots} (e : (sTake s).2.2 = 0) : Took s (sTake s).1 (sTake s).2.1 := by
  have e0 := rsTake_eq0 s
  rw [← sTake_rs, SlT.rTake_eq] at e0
  have e1 : sT (sTake s).1 = (SlT.takeD s.gens s.used s.free).1 := congrArg Prod.fst e0
  have e2 : hT (sTake s).2.1 = (SlT.takeD s.gens s.used s.free).2.1 := congrArg (fun x => x.2.1) e0
  have e3 : (sTake s).2.2 = (SlT.takeD s.gens s.used s.free).2.2 := congrArg (fun x => x.2.2) e0
  rcases SlT.take_cases s.gens s.used s.free with ⟨_, h⟩ | ⟨_, h⟩ | ⟨i, h⟩
  · rw [e3, h] at e; simp at e
  · rw [e3, h] at e; simp at e
  rw [h.eq] at e1 e2
  generalize (sTake s).1 = s' at *
  generalize (sTake s).2.1 = hd at *
  have hs' : s' = ⟨s.gens.set i (s.gens.getD i default + 1), s.used.set i true, s.free.take (s.free.length - 1)⟩ := sT_inj e1
  have hh : hd = ⟨(i : Int), s.gens.getD i default + 1⟩ := hT_inj e2
  have r1 : sRight s = true := by rw [sRight_eq]; exact h.right
  have r2 : sRight s' = true := by rw [sRight_eq, hs']; exact SlT.take_right h
  refine ⟨r1, r2, fun x hx he => ?_, fun x => ?_, fun p q hd => ?_⟩
  · have h1 := ((mem_sAll r1).1 hx).2.1
    rw [he, hh] at h1
    simp only [Int.toNat_natCast] at h1
    rw [h.free] at h1; cases h1
  · rw [← mem_map_hT, ← mem_map_hT, sAll_eq, sAll_eq, hs', hh]
    by_cases hx : x.slot = (i : Int) ∧ x.gen = s.gens.getD i default + 1
    · have ex : x = ⟨(i : Int), s.gens.getD i default + 1⟩ := hT_inj (by simp [hT, hx.1, hx.2])
      refine ⟨fun _ => .inr ex, fun _ => ?_⟩
      rw [ex]; exact SlT.take_has h
    · refine (SlT.take_others h (p := x.slot) (q := x.gen) hx).symm.trans ⟨.inl, fun h2 => h2.resolve_right fun ex => hx (by rw [ex]; exact ⟨rfl, rfl⟩)⟩
  · rw [hs', hh]; exact SlT.dead_take h hd
/-- What a slot that is given back is. -/
structure Gave (s s' : Slots) (h : Handle) : Prop where
  was : sRight s = true
  right : sRight s' = true
  all : ∀ x, x ∈ sAll s' ↔ x ∈ sAll s ∧ x ≠ h
  dead : SlT.Dead h.slot h.gen s'.gens s'.used
theorem give_ok {s : Slots} {h : Handle} (hm : h ∈ sAll s) : (sGive s h).2 = 0 ∧ Gave s (sGive s h).1 h := by
  have r1 : sRight s = true := by
    cases hr : sRight s with
    | true => rfl
    | false => rw [sAll_bad hr] at hm; cases hm
  have rb : SlT.rightB s.gens s.used s.free = true := by rw [← sRight_eq]; exact r1
  have hm2 : (h.slot, h.gen) ∈ SlT.allD s.gens s.used s.free := by rw [← sAll_eq]; exact mem_map_hT.2 hm
  have e0 := rsGive_eq0 s h
  rw [← sGive_rs, SlT.rGive_eq] at e0
  have e1 : sT (sGive s h).1 = (SlT.giveD s.gens s.used s.free h.slot h.gen).1 := congrArg Prod.fst e0
  have e2 : (sGive s h).2 = (SlT.giveD s.gens s.used s.free h.slot h.gen).2 := congrArg Prod.snd e0
  rw [SlT.give_yes rb hm2] at e1 e2
  refine ⟨e2, ?_⟩
  generalize (sGive s h).1 = s' at *
  have hs' : s' = ⟨s.gens, s.used.set h.slot.toNat false, s.free ++ [h.slot]⟩ := sT_inj e1
  have r2 : sRight s' = true := by rw [sRight_eq, hs']; exact SlT.give_right rb hm2
  refine ⟨r1, r2, fun x => ?_, by rw [hs']; exact SlT.dead_given rb hm2⟩
  obtain ⟨h1, h2, h3⟩ := (mem_sAll r1).1 hm
  have hl := (List.getElem?_eq_some_iff.1 h2).1
  rw [mem_sAll r2, mem_sAll r1, hs']
  simp only
  by_cases hx : x.slot.toNat = h.slot.toNat
  · rw [hx, List.getElem?_set_self hl]
    constructor
    · rintro ⟨_, h5, _⟩; cases h5
    · rintro ⟨⟨h4, h5, h6⟩, h7⟩
      refine absurd (hT_inj ?_) h7
      simp only [hT, Prod.mk.injEq]
      exact ⟨by omega, by rw [← h6, ← h3]⟩
  · rw [List.getElem?_set_ne (fun e => hx e.symm)]
    exact ⟨fun h4 => ⟨h4, fun e => hx (by rw [e])⟩, fun h4 => h4.1⟩
def putH : List Handle → Handle → List Handle
  | [], x => [x]
  | t :: r, x => if t.slot < x.slot then t :: putH r x else if t.slot = x.slot then x :: r else x :: t :: r
theorem putX_handles (x : Tenant) : ∀ l : List Tenant, (putX l x).map Tenant.handle = putH (l.map Tenant.handle) x.handle
  | [] => rfl
  | t :: r => by
    simp only [putX, putH, List.map_cons]
    split
    · rw [List.map_cons, putX_handles x r]
    · split <;> rfl
theorem putX_perm {x : Tenant} : ∀ {l : List Tenant}, (∀ t ∈ l, t.handle.slot ≠ x.handle.slot) → (putX l x).Perm (x :: l)
  | [], _ => List.Perm.refl _
  | t :: r, h => by
    unfold putX
    split
    · exact ((putX_perm fun u hu => h u (List.mem_cons_of_mem _ hu)).cons t).trans (List.Perm.swap x t r)
    · rw [if_neg (h t List.mem_cons_self)]
theorem mem_putH {x : Handle} : ∀ {l : List Handle}, (∀ t ∈ l, t.slot ≠ x.slot) → ∀ y, y ∈ putH l x ↔ y ∈ l ∨ y = x
  | [], _, y => by simp [putH]
  | t :: r, h, y => by
    unfold putH
    split
    · rw [List.mem_cons, mem_putH (fun u hu => h u (List.mem_cons_of_mem _ hu)), List.mem_cons, or_assoc]
    · rw [if_neg (h t List.mem_cons_self), List.mem_cons]; exact or_comm
theorem Up.put {x : Handle} : ∀ {l : List Handle}, Up l → Up (putH l x)
  | [], _ => List.pairwise_singleton _ _
  | t :: r, h => by
    obtain ⟨a1, a2⟩ := List.pairwise_cons.1 h
    unfold putH
    split
    · rename_i h1
      refine List.pairwise_cons.2 ⟨fun y hy => ?_, Up.put a2⟩
      have key : ∀ {l : List Handle}, y ∈ putH l x → y ∈ l ∨ y = x := by
        intro l
        induction l with
        | nil => intro h; exact .inr (by simpa [putH] using h)
        | cons z w ih =>
          unfold putH
          split
          · intro h; rcases List.mem_cons.1 h with rfl | h
            · exact .inl List.mem_cons_self
            · exact (ih h).imp (List.mem_cons_of_mem _) id
          · split
            · intro h; rcases List.mem_cons.1 h with rfl | h
              · exact .inr rfl
              · exact .inl (List.mem_cons_of_mem _ h)
            · intro h; rcases List.mem_cons.1 h with rfl | h
              · exact .inr rfl
              · exact .inl h
      rcases key hy with hy | rfl
      · exact a1 y hy
      · exact h1
    · split
      · rename_i h1 h2
        exact List.pairwise_cons.2 ⟨fun y hy => by have := a1 y hy; omega, a2⟩
      · rename_i h1 h2
        exact List.pairwise_cons.2 ⟨fun y hy => by
          rcases List.mem_cons.1 hy with rfl | hy
          · omega
          · have := a1 y hy; omega, h⟩
theorem putX_set {x : Tenant} : ∀ {l : List Tenant} {i : Nat}, Up (l.map Tenant.handle) → i < l.length → (l.getD i default).handle.slot = x.handle.slot → putX l x = l.set i x
  | [], i, _, hi, _ => by simp at hi
  | t :: r, 0, _, _, he => by
    have he' : t.handle.slot = x.handle.slot := by simpa using he
    unfold putX
    rw [if_neg (by omega), if_pos he']; rfl
  | t :: r, i + 1, h, hi, he => by
    obtain ⟨a1, a2⟩ := List.pairwise_cons.1 (show List.Pairwise _ (t.handle :: r.map Tenant.handle) from h)
    have hi' : i < r.length := by simpa using hi
    have he' : (r.getD i default).handle.slot = x.handle.slot := by simpa using he
    have hm : (r.getD i default).handle ∈ r.map Tenant.handle := List.mem_map.2 ⟨_, getD_mem' hi', rfl⟩
    have := a1 _ hm
    unfold putX
    rw [if_pos (by omega), putX_set a2 hi' he']; rfl
theorem sAll_take {s : Slots} (e : (sTake s).2.2 = 0) : sAll (sTake s).1 = putH (sAll s) (sTake s).2.1 := by
  have h := take_ok e
  refine Up.ext (sAll_up _) (sAll_up s).put fun x => ?_
  rw [h.all, mem_putH h.slot]
theorem delL_eq {α : Type} (l : List α) (i : Nat) : delL l i (i + 1) = l.take i ++ l.drop (i + 1) := rfl
theorem mem_del {α : Type} [Inhabited α] {l : List α} (hn : l.Nodup) {i : Nat} (hi : i < l.length) (x : α) : x ∈ delL l i (i + 1) ↔ x ∈ l ∧ x ≠ l.getD i default := by
  rw [delL_eq, List.mem_append]
  have e : l = l.take i ++ (l.getD i default :: l.drop (i + 1)) := by rw [← drop_cons' hi, List.take_append_drop]
  generalize l.getD i default = y at e ⊢
  generalize l.take i = a at e ⊢
  generalize l.drop (i + 1) = b at e ⊢
  subst e
  rw [List.nodup_append] at hn
  obtain ⟨_, h2, h3⟩ := hn
  have h4 := (List.nodup_cons.1 h2).1
  rw [List.mem_append, List.mem_cons]
  constructor
  · rintro (h | h)
    · exact ⟨.inl h, h3 x h y List.mem_cons_self⟩
    · exact ⟨.inr (.inr h), fun e => h4 (e ▸ h)⟩
  · rintro ⟨h | h | h, h5⟩
    · exact .inl h
    · exact absurd h h5
    · exact .inr h
theorem delL_sub {α : Type} (l : List α) (i : Nat) : (delL l i (i + 1)).Sublist l := by
  rw [delL_eq]
  have h := List.Sublist.append (List.Sublist.refl (l.take i)) (List.drop_sublist_drop_left l (Nat.le_succ i))
  rwa [List.take_append_drop] at h
theorem sAll_give {s : Slots} {i : Nat} (hi : i < (sAll s).length) : sAll (sGive s ((sAll s).getD i default)).1 = delL (sAll s) i (i + 1) := by
  have h := (give_ok (s := s) (h := (sAll s).getD i default) (getD_mem' hi)).2
  refine Up.ext (sAll_up _) ((sAll_up s).sublist (delL_sub _ _)) fun x => ?_
  rw [h.all, mem_del (sAll_up s).nodup hi]
theorem delL_map {α β : Type} (f : α → β) (l : List α) (i j : Nat) : (delL l i j).map f = delL (l.map f) i j := by
  unfold delL; rw [List.map_append, List.map_take, List.map_drop]
end Go.Proofs.YtopjaeoklkpcpaaGreatDoor.Jd

namespace Go.Proofs.YtopjaeoklkpcpaaGreatDoor.Jd
set_option linter.unusedVariables false
set_option linter.unusedSimpArgs false
theorem gPlace_l0_spec (r : Registry) (name : Str) : ∀ n i, r.l.length < i + n → i ≤ r.l.length → (∃ j, i ≤ j ∧ j < r.l.length ∧ outc1 (gPlace_l0 r name n i) (fun r => r) (fun x_1 => ((0 : Int), false)) = ((j : Int), true) ∧ (r.l.getD j default).name = name) ∨ (outc1 (gPlace_l0 r name n i) (fun r => r) (fun x_1 => ((0 : Int), false)) = (0, false) ∧ ∀ j, i ≤ j → j < r.l.length → (r.l.getD j default).name ≠ name)
  | 0, i, h1, h2 => by omega
  | n + 1, i, h1, h2 => by
    unfold gPlace_l0
    by_cases hi : i < r.l.length
    · rw [if_pos (by omega)]
      by_cases hn : (r.l.getD i default).name = name
      · rw [if_pos hn]; exact .inl ⟨i, Nat.le_refl _, hi, rfl, hn⟩
      · rw [if_neg hn]
        rcases gPlace_l0_spec r name n (i + 1) (by omega) (by omega) with ⟨j, h3, h4, h5, h6⟩ | ⟨h3, h4⟩
        · exact .inl ⟨j, by omega, h4, h5, h6⟩
        · refine .inr ⟨h3, fun j h5 h6 => ?_⟩
          by_cases e : j = i
          · subst e; exact hn
          · exact h4 j (by omega) h6
    · rw [if_neg (by omega)]; exact .inr ⟨rfl, fun j h3 h4 => by omega⟩
theorem place_cases (r : Registry) (name : Str) : (∃ i, i < r.l.length ∧ gPlace r name = ((i : Int), true) ∧ (r.l.getD i default).name = name) ∨ (gPlace r name = (0, false) ∧ ∀ t ∈ r.l, t.name ≠ name) := by
  rcases gPlace_l0_spec r name (r.l.length + 1) 0 (by omega) (by omega) with ⟨j, h3, h4, h5, h6⟩ | ⟨h3, h4⟩
  · exact .inl ⟨j, h4, h5, h6⟩
  · refine .inr ⟨h3, fun t ht => ?_⟩
    obtain ⟨k, hk, e⟩ := mem_getD' ht
    rw [← e]; exact h4 k (by omega) hk
theorem names_ix {l : List Tenant} (h : (l.map Tenant.name).Nodup) {i j : Nat} (hi : i < l.length) (hj : j < l.length) (e : (l.getD i default).name = (l.getD j default).name) : i = j := by
  have e2 : (l.map Tenant.name)[i]'(by simpa using hi) = (l.map Tenant.name)[j]'(by simpa using hj) := by
    simpa [List.getD, hi, hj] using e
  rcases Nat.lt_trichotomy i j with hij | hij | hij
  · exact absurd e2 (List.pairwise_iff_getElem.1 h i j _ _ hij)
  · exact hij
  · exact absurd e2.symm (List.pairwise_iff_getElem.1 h j i _ _ hij)
theorem place_at {r : Registry} (h : (r.l.map Tenant.name).Nodup) {i : Nat} (hi : i < r.l.length) : gPlace r (r.l.getD i default).name = ((i : Int), true) := by
  rcases place_cases r (r.l.getD i default).name with ⟨j, h1, h2, h3⟩ | ⟨_, h2⟩
  · rw [h2, names_ix h h1 hi h3]
  · exact absurd rfl (h2 _ (getD_mem' hi))
theorem place_none {r : Registry} {name : Str} (h : ∀ t ∈ r.l, t.name ≠ name) : gPlace r name = (0, false) := by
  rcases place_cases r name with ⟨j, h1, h2, h3⟩ | ⟨h1, _⟩
  · exact absurd h3 (h _ (getD_mem' h1))
  · exact h1
def noT : Tenant := Tenant.mk (Handle.mk 0 0) [] 0 0 [] [] 0
theorem find_none {r : Registry} {name : Str} (h : ∀ t ∈ r.l, t.name ≠ name) : gFind r name = (noT, false) := by
  unfold gFind
  rw [place_none h]; rfl
theorem find_at {r : Registry} {name : Str} {i : Nat} (h : gPlace r name = ((i : Int), true)) : gFind r name = (r.l.getD i default, true) := by
  unfold gFind
  rw [h]; rfl
theorem find_some {r : Registry} (hr : (r.l.map Tenant.name).Nodup) {t : Tenant} (ht : t ∈ r.l) : gFind r t.name = (t, true) := by
  obtain ⟨k, hk, e⟩ := mem_getD' ht
  rw [find_at (i := k) (by rw [← e]; exact place_at hr hk), e]
theorem find_true {r : Registry} {name : Str} (h : (gFind r name).2 = true) : (gFind r name).1 ∈ r.l ∧ (gFind r name).1.name = name := by
  rcases place_cases r name with ⟨j, h1, h2, h3⟩ | ⟨_, h2⟩
  · rw [find_at h2]; exact ⟨getD_mem' h1, h3⟩
  · rw [find_none h2] at h; cases h
theorem find_false {r : Registry} {name : Str} (h : (gFind r name).2 = false) : ∀ t ∈ r.l, t.name ≠ name := by
  rcases place_cases r name with ⟨j, h1, h2, h3⟩ | ⟨_, h2⟩
  · rw [find_at h2] at h; cases h
  · exact h2
theorem TenOk.mono {a b : Int} {t : Tenant} (h : TenOk a t) (hab : a ≤ b) : TenOk b t := ⟨h.name, ⟨h.version.1, by have := h.version.2; omega⟩, h.state, h.deadline, h.drains, h.rules, h.creds⟩
section
variable {r : Registry}
theorem RightR.up (h : RightR r) : Up (r.l.map Tenant.handle) := by rw [h.hs]; exact sAll_up _
theorem RightR.len (h : RightR r) : (sAll r.slots).length = r.l.length := by rw [← h.hs]; simp
theorem RightR.next (h : RightR r) (hq : r.seq < 1000000000000) : RightR (xR r) := ⟨h.slots, by have := h.seq; exact ⟨by show 0 ≤ r.seq + 1; omega, by show r.seq + 1 ≤ _; omega⟩, h.hs, h.names, fun t ht => (h.ok t ht).mono (by show r.seq ≤ r.seq + 1; omega)⟩
theorem RightR.at (h : RightR r) {i : Nat} (hi : i < r.l.length) : (sAll r.slots).getD i default = (r.l.getD i default).handle := ((map_eq_of h.len).2 h.hs i hi).symm
theorem RightR.handle (h : RightR r) {t : Tenant} (ht : t ∈ r.l) : t.handle ∈ sAll r.slots := by rw [← h.hs]; exact List.mem_map.2 ⟨t, ht, rfl⟩
end
theorem map_set_same {α β : Type} [Inhabited α] {f : α → β} {l : List α} {i : Nat} {u : α} (hi : i < l.length) (e : f u = f (l.getD i default)) : (l.set i u).map f = l.map f := by
  rw [List.map_set, e]
  refine List.ext_getElem (by simp) fun k h1 h2 => ?_
  rw [List.getElem_set]
  split
  · rename_i e2; subst e2; simp [List.getD, hi]
  · rfl
theorem RightR.put {r : Registry} (h : RightR r) (hq : r.seq < 1000000000000) {i : Nat} (hi : i < r.l.length) {u : Tenant} (hh : u.handle = (r.l.getD i default).handle) (hn : u.name = (r.l.getD i default).name) (hu : TenOk (r.seq + 1) u) : putX r.l u = r.l.set i u ∧ RightR ⟨r.slots, r.l.set i u, r.seq + 1⟩ := by
  refine ⟨putX_set h.up hi (by rw [hh]), h.slots, by have := h.seq; exact ⟨by show 0 ≤ r.seq + 1; omega, by show r.seq + 1 ≤ _; omega⟩, ?_, ?_, fun t ht => ?_⟩
  · show (r.l.set i u).map Tenant.handle = _
    rw [map_set_same hi hh]; exact h.hs
  · show ((r.l.set i u).map Tenant.name).Nodup
    rw [map_set_same hi hn]; exact h.names
  · rcases List.mem_or_eq_of_mem_set ht with ht | rfl
    · exact (h.ok t ht).mono (by show r.seq ≤ r.seq + 1; omega)
    · exact hu
theorem RightR.del {r : Registry} (h : RightR r) (hq : r.seq < 1000000000000) {i : Nat} (hi : i < r.l.length) : RightR ⟨(sGive r.slots (r.l.getD i default).handle).1, delL r.l i (i + 1), r.seq + 1⟩ := by
  have hi2 : i < (sAll r.slots).length := by rw [h.len]; exact hi
  have e := sAll_give hi2
  have g := (give_ok (s := r.slots) (h := (r.l.getD i default).handle) (h.handle (getD_mem' hi))).2
  rw [h.at hi] at e
  refine ⟨g.right, by have := h.seq; exact ⟨by show 0 ≤ r.seq + 1; omega, by show r.seq + 1 ≤ _; omega⟩, ?_, ?_, fun t ht => ?_⟩
  · show (delL r.l i (i + 1)).map Tenant.handle = _
    rw [delL_map, h.hs, e]
  · exact h.names.sublist ((delL_sub _ _).map _)
  · exact (h.ok t ((delL_sub _ _).subset ht)).mono (by show r.seq ≤ r.seq + 1; omega)
theorem RightR.new {r : Registry} (h : RightR r) (hq : r.seq < 1000000000000) (e : (sTake r.slots).2.2 = 0) {t : Tenant} (hh : t.handle = (sTake r.slots).2.1) (hn : ∀ u ∈ r.l, u.name ≠ t.name) (ht : TenOk (r.seq + 1) t) : (putX r.l t).Perm (t :: r.l) ∧ RightR ⟨(sTake r.slots).1, putX r.l t, r.seq + 1⟩ := by
  have k := take_ok e
  have hp : (putX r.l t).Perm (t :: r.l) := putX_perm fun u hu => by rw [hh]; exact k.slot _ (h.handle hu)
  refine ⟨hp, k.right, by have := h.seq; exact ⟨by show 0 ≤ r.seq + 1; omega, by show r.seq + 1 ≤ _; omega⟩, ?_, ?_, fun u hu => ?_⟩
  · show (putX r.l t).map Tenant.handle = _
    rw [putX_handles, h.hs, sAll_take e, hh]
  · refine ((hp.map Tenant.name).nodup_iff).2 ?_
    rw [List.map_cons, List.nodup_cons]
    exact ⟨fun hm => by obtain ⟨u, hu, e⟩ := List.mem_map.1 hm; exact hn u hu e, h.names⟩
  · rcases List.mem_cons.1 (hp.mem_iff.1 hu) with rfl | hu
    · exact ht
    · exact (h.ok u hu).mono (by show r.seq ≤ r.seq + 1; omega)
theorem mem_set_self {l : List Tenant} {i : Nat} (hi : i < l.length) (u : Tenant) : u ∈ l.set i u := List.mem_iff_getElem.2 ⟨i, by simpa using hi, by simp⟩
end Go.Proofs.YtopjaeoklkpcpaaGreatDoor.Jd

namespace Go.Proofs.YtopjaeoklkpcpaaGreatDoor.Jd
set_option linter.unusedVariables false
set_option linter.unusedSimpArgs false
def trimTo (now ov : Int) (c : Cred) : Int := if now + ov < c.to then now + ov else c.to
def trimC (now ov : Int) (c : Cred) : Option Cred := if c.to ≤ now then none else if c.frm < trimTo now ov c then some ⟨c.id, c.key, c.frm, trimTo now ov c⟩ else none
def idC (i : Int) (l : List Cred) : Int := l.foldl (fun _ c => c.id + 1) i
theorem cRot_l0_eq (l : List Cred) (key : Str) (now ov span : Int) : ∀ n k out id, l.length < n + k → (cRot_l0 l key now ov span n k out id).2 = (out ++ (l.drop k).filterMap (trimC now ov), idC id (l.drop k))
  | 0, k, out, id, h => by
    rw [drop_none l k (by omega)]
    simp [cRot_l0, idC]
  | n + 1, k, out, id, h => by
    rw [cRot_l0]
    by_cases hk : k < l.length
    · rw [if_pos (by omega), drop_getD l k hk, List.filterMap_cons]
      show _ = (_, idC ((l.getD k default).id + 1) (l.drop (k + 1)))
      by_cases h1 : (l.getD k default).to ≤ now
      · rw [if_pos h1, cRot_l0_eq l key now ov span n (k + 1) _ _ (by omega), show trimC now ov (l.getD k default) = none by unfold trimC; rw [if_pos h1]]
      · rw [if_neg h1]
        by_cases h2 : (l.getD k default).frm < trimTo now ov (l.getD k default)
        · rw [show trimC now ov (l.getD k default) = some ⟨(l.getD k default).id, (l.getD k default).key, (l.getD k default).frm, trimTo now ov (l.getD k default)⟩ by unfold trimC; rw [if_neg h1, if_pos h2]]
          unfold trimTo at h2
          rw [if_pos h2, cRot_l0_eq l key now ov span n (k + 1) _ _ (by omega)]
          simp [trimTo]
        · rw [show trimC now ov (l.getD k default) = none by unfold trimC; rw [if_neg h1, if_neg h2]]
          unfold trimTo at h2
          rw [if_neg h2, cRot_l0_eq l key now ov span n (k + 1) _ _ (by omega)]
    · rw [if_neg (by omega), drop_none l k hk]
      simp [idC]
def rotC (l : List Cred) (key : Str) (now ov span : Int) : List Cred × Int × Int :=
  if ¬ cRight l = true then ([], 0, 110) else if ¬ mRight key = true then ([], 0, 50)
  else if ¬ ((0 ≤ now ∧ now ≤ 1000000000000) ∧ (0 ≤ ov ∧ ov ≤ 1000000000) ∧ (1 ≤ span ∧ span ≤ 1000000000) ∧ now + span ≤ 1000000000000) then ([], 0, 2)
  else if 4 < (l.filterMap (trimC now ov)).length + 1 ∨ 1000000000 < idC 1 l then ([], 0, 92)
  else (l.filterMap (trimC now ov) ++ [⟨idC 1 l, key, now, now + span⟩], idC 1 l, 0)
theorem cIsIn_false {n a b : Int} (h : cIsIn n a b = false) : ¬ (a ≤ n ∧ n ≤ b) := fun e => by
  rw [cIsIn_iff.2 e] at h; cases h
theorem cRot_eq (l : List Cred) (key : Str) (now ov span : Int) : cRot l key now ov span = rotC l key now ov span := by
  unfold cRot rotC
  cases h1 : cRight l
  · simp
  · cases h2 : mRight key
    · simp
    · simp only [Bool.not_true, Bool.false_eq_true, if_false, not_true_eq_false]
      cases h3 : cIsIn now 0 1000000000000
      · have := cIsIn_false h3
        simp only [Bool.not_false, if_true]
        rw [if_pos (by omega)]
      · have g3 := cIsIn_iff.1 h3
        cases h4 : cIsIn ov 0 1000000000
        · have := cIsIn_false h4
          simp only [Bool.not_true, Bool.not_false, Bool.false_eq_true, if_false, if_true]
          rw [if_pos (by omega)]
        · have g4 := cIsIn_iff.1 h4
          cases h5 : cIsIn span 1 1000000000
          · have := cIsIn_false h5
            simp only [Bool.not_true, Bool.not_false, Bool.false_eq_true, if_false, if_true]
            rw [if_pos (by omega)]
          · have g5 := cIsIn_iff.1 h5
            simp only [Bool.not_true, Bool.false_eq_true, if_false]
            by_cases h6 : 1000000000000 < now + span
            · rw [if_pos h6, if_pos (by omega)]
            · rw [if_neg h6, if_neg (show ¬ ¬ _ by omega)]
              have e := cRot_l0_eq l key now ov span (l.length + 1) 0 [] 1 (by omega)
              simp only [run3]
              rw [List.drop_zero, List.nil_append] at e
              rw [e]
              simp only [List.length_append, List.length_cons, List.length_nil]
              by_cases h7 : 4 < (l.filterMap (trimC now ov)).length + 1
              · rw [if_pos (by omega), if_pos (.inl h7)]
              · rw [if_neg (by omega)]
                by_cases h8 : 1000000000 < idC 1 l
                · rw [if_pos h8, if_pos (.inr h8)]
                · rw [if_neg h8, if_neg (by simp [h7, h8])]
theorem idC_bd : ∀ (l : List Cred) (i : Int), (∀ c ∈ l, i ≤ c.id) → l.Pairwise (fun a b => a.id < b.id) → i ≤ idC i l ∧ ∀ c ∈ l, c.id < idC i l
  | [], i, _, _ => ⟨Int.le_refl _, nofun⟩
  | c :: r, i, h, hp => by
    rw [List.pairwise_cons] at hp
    have h1 := h c List.mem_cons_self
    obtain ⟨g1, g2⟩ := idC_bd r (c.id + 1) (fun d hd => by have := hp.1 d hd; omega) hp.2
    show i ≤ idC (c.id + 1) r ∧ ∀ d ∈ c :: r, d.id < idC (c.id + 1) r
    refine ⟨by omega, fun d hd => ?_⟩
    rcases List.mem_cons.1 hd with rfl | hd
    · omega
    · exact g2 d hd
theorem RightL.idC {l : List Cred} (h : RightL l) : 1 ≤ idC 1 l ∧ ∀ c ∈ l, c.id < Jd.idC 1 l :=
  idC_bd l 1 (fun c hc => (h.2.1 c hc).1.1) h.2.2
theorem trimC_some {now ov : Int} {c d : Cred} : trimC now ov c = some d ↔ now < c.to ∧ c.frm < trimTo now ov c ∧ d = ⟨c.id, c.key, c.frm, trimTo now ov c⟩ := by
  unfold trimC
  split
  · simp; omega
  · split
    · simp; constructor
      · rintro rfl; exact ⟨by omega, by assumption, rfl⟩
      · rintro ⟨_, _, rfl⟩; rfl
    · simp; omega
theorem trimTo_le {now ov : Int} {c : Cred} : trimTo now ov c ≤ c.to ∧ trimTo now ov c ≤ now + ov ∧ (trimTo now ov c = c.to ∨ trimTo now ov c = now + ov) := by
  unfold trimTo; split <;> omega
structure RotOk (l : List Cred) (key : Str) (now ov span : Int) : Prop where
  right : RightL l
  kk : 1 ≤ key.length ∧ key.length ≤ 64
  nn : 0 ≤ now ∧ now ≤ 1000000000000
  oo : 0 ≤ ov ∧ ov ≤ 1000000000
  ss : 1 ≤ span ∧ span ≤ 1000000000
  sum : now + span ≤ 1000000000000
  few : (l.filterMap (trimC now ov)).length + 1 ≤ 4
  id : idC 1 l ≤ 1000000000
  out : (cRot l key now ov span).1 = l.filterMap (trimC now ov) ++ [⟨idC 1 l, key, now, now + span⟩]
  idv : (cRot l key now ov span).2.1 = idC 1 l
theorem rot_ok {l : List Cred} {key : Str} {now ov span : Int} (h : (cRot l key now ov span).2.2 = 0) : RotOk l key now ov span := by
  have e := cRot_eq l key now ov span
  unfold rotC at e
  split at e
  · rw [e] at h; simp at h
  · rename_i h1
    split at e
    · rw [e] at h; simp at h
    · rename_i h2
      split at e
      · rw [e] at h; simp at h
      · rename_i h3
        split at e
        · rw [e] at h; simp at h
        · rename_i h4
          have h3' := Classical.not_not.1 h3
          obtain ⟨a1, a2, a3, a4⟩ := h3'
          exact ⟨cRight_iff.1 (Classical.not_not.1 h1), mRight_iff.1 (Classical.not_not.1 h2), a1, a2, a3, a4, by omega, by omega, by rw [e], by rw [e]⟩
variable {l : List Cred} {key : Str} {now ov span : Int}
theorem RotOk.mem (h : RotOk l key now ov span) {d : Cred} : d ∈ (cRot l key now ov span).1 ↔ (∃ c ∈ l, trimC now ov c = some d) ∨ d = ⟨idC 1 l, key, now, now + span⟩ := by
  rw [h.out, List.mem_append, List.mem_filterMap]
  simp
theorem RotOk.isRight (h : RotOk l key now ov span) : RightL (cRot l key now ov span).1 := by
  have hid := h.right.idC
  refine ⟨?_, fun d hd => ?_, ?_⟩
  · rw [h.out, List.length_append]; have := h.few; simp; omega
  · rcases h.mem.1 hd with ⟨c, hc, ht⟩ | rfl
    · obtain ⟨t1, t2, rfl⟩ := trimC_some.1 ht
      obtain ⟨g1, g2, g3, g4, g5⟩ := h.right.2.1 c hc
      have := @trimTo_le now ov c
      exact ⟨g1, g2, g3, t2, by show trimTo now ov c ≤ _; omega⟩
    · have := h.id; have := h.sum; have := h.ss; have := h.nn
      exact ⟨⟨hid.1, h.id⟩, h.kk, h.nn.1, by show now < now + span; omega, h.sum⟩
  · rw [h.out, List.pairwise_append]
    refine ⟨?_, List.pairwise_singleton _ _, fun a ha b hb => ?_⟩
    · refine List.Pairwise.filterMap _ (fun a a' haa b hb b' hb' => ?_) h.right.2.2
      obtain ⟨_, _, rfl⟩ := trimC_some.1 hb
      obtain ⟨_, _, rfl⟩ := trimC_some.1 hb'
      exact haa
    · obtain ⟨c, hc, ht⟩ := List.mem_filterMap.1 ha
      obtain ⟨_, _, rfl⟩ := trimC_some.1 ht
      have : b = ⟨Jd.idC 1 l, key, now, now + span⟩ := by simpa using hb
      subst this
      exact hid.2 c hc
end Go.Proofs.YtopjaeoklkpcpaaGreatDoor.Jd

namespace Go.Proofs.YtopjaeoklkpcpaaGreatDoor.Jd
set_option linter.unusedVariables false
set_option linter.unusedSimpArgs false
def failR (r : Registry) (e : Int) : Registry × Reply := (xR r, Reply.mk e (r.seq + 1) (Handle.mk 0 0) 0 0)
def noR : Registry × Reply := (Registry.mk (Slots.mk [] [] []) [] 0, Reply.mk 150 0 (Handle.mk 0 0) 0 0)
def chg (t : Tenant) (c : Command) (now : Int) : Tenant × Int :=
  if c.verb = 2 then (Tenant.mk t.handle t.name 2 (t.version + 1) t.rules t.creds 0, if t.state = 2 then 156 else 0)
  else if c.verb = 3 then (Tenant.mk t.handle t.name 1 (t.version + 1) t.rules t.creds 0, if t.state = 2 then 0 else 156)
  else if c.verb = 4 then (Tenant.mk t.handle t.name 3 (t.version + 1) t.rules t.creds (now + c.n), if t.state = 1 then (if c.n < 1 ∨ 1000000000 < c.n ∨ 1000000000000 < now + c.n then 2 else 0) else 156)
  else if c.verb = 6 then (Tenant.mk t.handle t.name t.state (t.version + 1) t.rules (cRot t.creds c.key now c.n c.m).1 t.deadline, (cRot t.creds c.key now c.n c.m).2.2)
  else if 0 ≤ c.at_ then (Tenant.mk t.handle t.name t.state (t.version + 1) (aclInsert t.rules c.at_ c.rule).1 t.creds t.deadline, (aclInsert t.rules c.at_ c.rule).2)
  else (Tenant.mk t.handle t.name t.state (t.version + 1) (aclRemove t.rules (IntKind.wrap .i64 (0 - (c.at_ + 1)))).1 t.creds t.deadline, (aclRemove t.rules (IntKind.wrap .i64 (0 - (c.at_ + 1)))).2)
def newT (r : Registry) (c : Command) (now : Int) : Tenant := Tenant.mk (sTake r.slots).2.1 c.name 1 1 [] (cRot [] c.key now 0 c.n).1 0
def changeD (r : Registry) (c : Command) (now : Int) (i : Int) (t : Tenant) : Registry × Reply :=
  if c.verb = 5 then (Registry.mk (sGive r.slots t.handle).1 (delL r.l i.toNat (i + 1).toNat) (r.seq + 1), Reply.mk 0 (r.seq + 1) t.handle (t.version + 1) t.state)
  else if c.verb = 8 ∨ c.verb = 10 then (xR r, Reply.mk 0 (r.seq + 1) t.handle t.version t.state)
  else if (chg t c now).2 ≠ 0 then failR r (chg t c now).2
  else (Registry.mk r.slots (putX r.l (chg t c now).1) (r.seq + 1), Reply.mk 0 (r.seq + 1) t.handle (t.version + 1) (chg t c now).1.state)
def doD (r : Registry) (c : Command) (now : Int) : Registry × Reply :=
  if c.verb = 1 then
    if gIsName c.name = true then
      if (gPlace r c.name).2 = true then failR r 153
      else if (sTake r.slots).2.2 ≠ 0 then failR r (sTake r.slots).2.2
      else if (cRot [] c.key now 0 c.n).2.2 ≠ 0 then failR r (cRot [] c.key now 0 c.n).2.2
      else (Registry.mk (sTake r.slots).1 (putX r.l (newT r c now)) (r.seq + 1), Reply.mk 0 (r.seq + 1) (sTake r.slots).2.1 1 1)
    else failR r 152
  else if c.verb = 9 then failR r 0
  else if (gPlace r c.name).2 = true then
    if c.want ≠ 0 ∧ c.want ≠ (r.l.getD (gPlace r c.name).1.toNat default).version then failR r 155
    else changeD r c now (gPlace r c.name).1 (r.l.getD (gPlace r c.name).1.toNat default)
  else failR r 154
theorem gPlace_l0_xR (r : Registry) (name : Str) : ∀ n i, gPlace_l0 (xR r) name n i = gPlace_l0 r name n i
  | 0, i => rfl
  | n + 1, i => by unfold gPlace_l0; rw [gPlace_l0_xR r name n (i + 1)]
theorem gPlace_xR (r : Registry) (name : Str) : gPlace (xR r) name = gPlace r name := by
  unfold gPlace; rw [gPlace_l0_xR]
theorem gApply_bad {r : Registry} {role : Int} {c : Command} {now : Int} (h : ¬ (gRight r = true ∧ r.seq < 1000000000000 ∧ 0 ≤ now ∧ now ≤ 1000000000000)) : gApply r role c now = noR := by
  unfold gApply
  cases hr : gRight r with
  | false => rfl
  | true =>
    simp only [Bool.not_true, Bool.false_eq_true, if_false]
    by_cases h2 : 1000000000000 ≤ r.seq
    · rw [if_pos h2]; rfl
    rw [if_neg h2]
    by_cases h3 : now < 0
    · rw [if_pos h3]; rfl
    rw [if_neg h3]
    by_cases h4 : 1000000000000 < now
    · rw [if_pos h4]; rfl
    exact absurd ⟨hr, by omega, by omega, by omega⟩ h
theorem gApply_may {r : Registry} {role : Int} {c : Command} {now : Int} (h : gRight r = true ∧ r.seq < 1000000000000 ∧ 0 ≤ now ∧ now ≤ 1000000000000) (hm : roMay role c.verb = false) : gApply r role c now = failR r 151 := by
  unfold gApply
  rw [h.1, if_neg (by simp), if_neg (by omega), if_neg (by omega), if_neg (by omega), hm]; rfl
theorem gApply_do {r : Registry} {role : Int} {c : Command} {now : Int} (h : gRight r = true ∧ r.seq < 1000000000000 ∧ 0 ≤ now ∧ now ≤ 1000000000000) (hm : roMay role c.verb = true) : gApply r role c now = doD r c now := by
  have hv := roMay_t hm
  unfold gApply doD
  rw [h.1, if_neg (by simp), if_neg (by omega), if_neg (by omega), if_neg (by omega), hm, if_neg (by simp)]
  by_cases v1 : c.verb = 1
  · rw [if_pos v1, if_pos v1, gPlace_xR]
    cases hn : gIsName c.name with
    | false => rfl
    | true =>
      simp only [Bool.not_true, Bool.false_eq_true, if_false, if_true, run0]
      by_cases hp : (gPlace r c.name).2 = true
      · rw [if_pos hp, if_pos hp]; rfl
      rw [if_neg hp, if_neg hp]
      by_cases e1 : (sTake r.slots).2.2 ≠ 0
      · rw [if_pos e1, if_pos e1]; rfl
      rw [if_neg e1, if_neg e1]
      by_cases e2 : (cRot [] c.key now 0 c.n).2.2 ≠ 0
      · rw [if_pos e2, if_pos e2]; rfl
      rw [if_neg e2, if_neg e2]; rfl
  rw [if_neg v1, if_neg v1]
  by_cases v9 : c.verb = 9
  · rw [if_pos v9, if_pos v9]; rfl
  rw [if_neg v9, if_neg v9]
  have eN : xN r c = (gPlace r c.name).1.toNat := by show (gPlace (xR r) c.name).1.toNat = _; rw [gPlace_xR]
  have eA : xA r c = r.l.getD (gPlace r c.name).1.toNat default := by show r.l.getD (xN r c) default = _; rw [eN]
  rw [eA, gPlace_xR]
  generalize r.l.getD (gPlace r c.name).1.toNat default = t
  cases hp : (gPlace r c.name).2 with
  | false => rfl
  | true =>
    simp only [Bool.not_true, Bool.false_eq_true, if_false, if_true, run0, run1]
    by_cases w0 : c.want ≠ 0 ∧ c.want ≠ t.version
    · rw [if_pos w0, if_pos (by rw [if_pos w0.1]; simpa using w0.2)]; rfl
    rw [if_neg w0, if_neg (by
      by_cases w1 : c.want = 0
      · rw [if_neg (by simp [w1])]; simp
      · rw [if_pos w1]; simp; exact Classical.byContradiction fun w2 => w0 ⟨w1, w2⟩)]
    unfold changeD chg
    by_cases v2 : c.verb = 2
    · rw [if_pos v2, if_neg (show ¬ c.verb = 5 by omega), if_neg (show ¬ (c.verb = 8 ∨ c.verb = 10) by omega), if_pos v2]
      by_cases s2 : t.state = 2
      · rw [if_pos (by simp [s2])]; simp [s2, failR]
      · rw [if_neg (by simp [s2])]; simp [s2]
    rw [if_neg v2]
    by_cases v3 : c.verb = 3
    · rw [if_pos v3, if_neg (show ¬ c.verb = 5 by omega), if_neg (show ¬ (c.verb = 8 ∨ c.verb = 10) by omega), if_neg v2, if_pos v3]
      by_cases s2 : t.state = 2
      · rw [if_neg (by simp [s2])]; simp [s2]
      · rw [if_pos (by simp [s2])]; simp [s2, failR]
    rw [if_neg v3]
    by_cases v4 : c.verb = 4
    · rw [if_pos v4, if_neg (show ¬ c.verb = 5 by omega), if_neg (show ¬ (c.verb = 8 ∨ c.verb = 10) by omega), if_neg v2, if_neg v3, if_pos v4]
      by_cases s2 : t.state = 1
      · rw [if_neg (by simp [s2])]
        simp only [s2, if_true]
        by_cases n1 : c.n < 1
        · rw [if_pos n1]; simp only [if_pos (show c.n < 1 ∨ 1000000000 < c.n ∨ 1000000000000 < now + c.n by omega)]; rw [if_pos (by decide)]; rfl
        rw [if_neg n1]
        by_cases n2 : 1000000000 < c.n
        · rw [if_pos n2]; simp only [if_pos (show c.n < 1 ∨ 1000000000 < c.n ∨ 1000000000000 < now + c.n by omega)]; rw [if_pos (by decide)]; rfl
        rw [if_neg n2]
        by_cases n3 : 1000000000000 < now + c.n
        · rw [if_pos n3]; simp only [if_pos (show c.n < 1 ∨ 1000000000 < c.n ∨ 1000000000000 < now + c.n by omega)]; rw [if_pos (by decide)]; rfl
        rw [if_neg n3]; simp only [if_neg (show ¬ (c.n < 1 ∨ 1000000000 < c.n ∨ 1000000000000 < now + c.n) by omega)]; rw [if_neg (by decide)]
      · rw [if_pos (by simp [s2])]; simp [s2, failR]
    rw [if_neg v4]
    by_cases v6 : c.verb = 6
    · rw [if_pos v6, if_neg (show ¬ c.verb = 5 by omega), if_neg (show ¬ (c.verb = 8 ∨ c.verb = 10) by omega), if_neg v2, if_neg v3, if_neg v4, if_pos v6]; rfl
    rw [if_neg v6]
    by_cases v7 : c.verb = 7
    · rw [if_pos v7, if_neg (show ¬ c.verb = 5 by omega), if_neg (show ¬ (c.verb = 8 ∨ c.verb = 10) by omega), if_neg v2, if_neg v3, if_neg v4, if_neg v6]
      by_cases a0 : 0 ≤ c.at_
      · rw [if_pos a0, if_pos a0]; rfl
      · rw [if_neg a0, if_neg a0]; rfl
    rw [if_neg v7]
    by_cases v5 : c.verb = 5
    · rw [if_pos v5, if_pos v5]
    rw [if_neg v5, if_neg v5]
    by_cases v8 : c.verb = 8
    · rw [if_pos v8, if_pos (.inl v8)]
    rw [if_neg v8]
    by_cases v10 : c.verb = 10
    · rw [if_pos v10, if_pos (.inr v10)]
    omega
theorem sTake_err (s : Slots) : (sTake s).2.2 ≠ 150 := by
  unfold sTake
  repeat' split
  all_goals (simp; done)
theorem cRot_err (l : List Cred) (key : Str) (now ov span : Int) : (cRot l key now ov span).2.2 ≠ 150 := by
  rw [cRot_eq]; unfold rotC
  repeat' split
  all_goals (simp; done)
theorem aclInsert_err (l : List Rule) (a : Int) (r : Rule) : (aclInsert l a r).2 ≠ 150 := by
  unfold aclInsert
  repeat' split
  all_goals (simp; done)
theorem aclRemove_err (l : List Rule) (a : Int) : (aclRemove l a).2 ≠ 150 := by
  unfold aclRemove
  repeat' split
  all_goals (simp; done)
theorem chg_err (t : Tenant) (c : Command) (now : Int) : (chg t c now).2 ≠ 150 := by
  unfold chg
  repeat' split
  all_goals first | exact cRot_err _ _ _ _ _ | exact aclInsert_err _ _ _ | exact aclRemove_err _ _ | (simp; done)
/-- A registry that takes a command at a tick. -/
structure Fit (r : Registry) (now : Int) : Prop where
  right : RightR r
  lt : r.seq < 1000000000000
  nn : 0 ≤ now ∧ now ≤ 1000000000000
theorem fit_iff {r : Registry} {now : Int} : Fit r now ↔ gRight r = true ∧ r.seq < 1000000000000 ∧ 0 ≤ now ∧ now ≤ 1000000000000 :=
  ⟨fun h => ⟨gRight_iff.2 h.right, h.lt, h.nn⟩, fun h => ⟨gRight_iff.1 h.1, h.2.1, h.2.2⟩⟩
/-- What a command comes to. -/
inductive Out (r : Registry) (role : Int) (c : Command) (now : Int) : Registry × Reply → Prop where
  | none (h : ¬ Fit r now) : Out r role c now noR
  | fail (h : Fit r now) (e : Int) (h0 : e ≠ 0) (h1 : e ≠ 150) : Out r role c now (failR r e)
  | new (h : Fit r now) (hm : roMay role c.verb = true) (hv : c.verb = 1) (hn : gIsName c.name = true) (hf : ∀ t ∈ r.l, t.name ≠ c.name) (h1 : (sTake r.slots).2.2 = 0) (h2 : (cRot [] c.key now 0 c.n).2.2 = 0) : Out r role c now (Registry.mk (sTake r.slots).1 (putX r.l (newT r c now)) (r.seq + 1), Reply.mk 0 (r.seq + 1) (sTake r.slots).2.1 1 1)
  | list (h : Fit r now) (hm : roMay role c.verb = true) (hv : c.verb = 9) : Out r role c now (failR r 0)
  | del (h : Fit r now) (hm : roMay role c.verb = true) (hv : c.verb = 5) (i : Nat) (hi : i < r.l.length) (hn : (r.l.getD i default).name = c.name) (hw : c.want = 0 ∨ c.want = (r.l.getD i default).version) : Out r role c now (Registry.mk (sGive r.slots (r.l.getD i default).handle).1 (delL r.l i (i + 1)) (r.seq + 1), Reply.mk 0 (r.seq + 1) (r.l.getD i default).handle ((r.l.getD i default).version + 1) (r.l.getD i default).state)
  | look (h : Fit r now) (hm : roMay role c.verb = true) (hv : c.verb = 8 ∨ c.verb = 10) (i : Nat) (hi : i < r.l.length) (hn : (r.l.getD i default).name = c.name) (hw : c.want = 0 ∨ c.want = (r.l.getD i default).version) : Out r role c now (xR r, Reply.mk 0 (r.seq + 1) (r.l.getD i default).handle (r.l.getD i default).version (r.l.getD i default).state)
  | put (h : Fit r now) (hm : roMay role c.verb = true) (hv : c.verb = 2 ∨ c.verb = 3 ∨ c.verb = 4 ∨ c.verb = 6 ∨ c.verb = 7) (i : Nat) (hi : i < r.l.length) (hn : (r.l.getD i default).name = c.name) (hw : c.want = 0 ∨ c.want = (r.l.getD i default).version) (hc : (chg (r.l.getD i default) c now).2 = 0) (hs : RightR ⟨r.slots, r.l.set i (chg (r.l.getD i default) c now).1, r.seq + 1⟩) : Out r role c now (Registry.mk r.slots (r.l.set i (chg (r.l.getD i default) c now).1) (r.seq + 1), Reply.mk 0 (r.seq + 1) (r.l.getD i default).handle ((r.l.getD i default).version + 1) (chg (r.l.getD i default) c now).1.state)
theorem chg_name (t : Tenant) (c : Command) (now : Int) : (chg t c now).1.name = t.name ∧ (chg t c now).1.handle = t.handle ∧ (chg t c now).1.version = t.version + 1 := by
  unfold chg
  repeat' split
  all_goals exact ⟨rfl, rfl, rfl⟩
theorem remove_cases (l : List Rule) (a : Int) : ((aclRemove l a).2 ≠ 0 ∧ (aclRemove l a).1 = []) ∨ (aclRight l = true ∧ 0 ≤ a ∧ a < l.length ∧ aclRemove l a = (delL l a.toNat (a + 1).toNat, 0) ∧ aclRight (delL l a.toNat (a + 1).toNat) = true) := by
  unfold aclRemove
  cases h1 : aclRight l with
  | false => exact .inl (by simp)
  | true =>
    simp only [Bool.not_true, Bool.false_eq_true, if_false]
    by_cases h2 : a < 0
    · rw [if_pos h2]; exact .inl (by simp)
    rw [if_neg h2]
    by_cases h3 : ((l.length : Nat) : Int) ≤ a
    · rw [if_pos h3]; exact .inl (by simp)
    rw [if_neg h3]
    have e : (a + 1).toNat = a.toNat + 1 := by omega
    refine .inr ⟨trivial, by omega, by omega, rfl, ?_⟩
    rw [e]
    obtain ⟨g1, g2⟩ := aclRight_iff.1 h1
    exact aclRight_iff.2 ⟨Nat.le_trans (delL_sub l a.toNat).length_le g1, fun r hr => g2 r ((delL_sub l a.toNat).subset hr)⟩
theorem chg_ok {t : Tenant} {c : Command} {now seq : Int} (hn : 0 ≤ now ∧ now ≤ 1000000000000) (ht : TenOk seq t) (hs : 0 ≤ seq) (he : (chg t c now).2 = 0) : TenOk (seq + 1) (chg t c now).1 := by
  have hver : 1 ≤ t.version + 1 ∧ t.version + 1 ≤ seq + 1 := by have := ht.version; omega
  unfold chg at he ⊢
  by_cases v2 : c.verb = 2
  · rw [if_pos v2]; exact ⟨ht.name, hver, (show (1 : Int) ≤ 2 ∧ (2 : Int) ≤ 3 by decide), (show (0 : Int) ≤ 0 ∧ (0 : Int) ≤ 1000000000000 by decide), .inl rfl, ht.rules, ht.creds⟩
  rw [if_neg v2] at he ⊢
  by_cases v3 : c.verb = 3
  · rw [if_pos v3]; exact ⟨ht.name, hver, (show (1 : Int) ≤ 1 ∧ (1 : Int) ≤ 3 by decide), (show (0 : Int) ≤ 0 ∧ (0 : Int) ≤ 1000000000000 by decide), .inl rfl, ht.rules, ht.creds⟩
  rw [if_neg v3] at he ⊢
  by_cases v4 : c.verb = 4
  · rw [if_pos v4] at he ⊢
    simp only at he
    split at he
    · split at he
      · cases he
      · exact ⟨ht.name, hver, (by decide : (1 : Int) ≤ 3 ∧ (3 : Int) ≤ 3), ⟨by show 0 ≤ now + c.n; omega, by show now + c.n ≤ _; omega⟩, .inr rfl, ht.rules, ht.creds⟩
    · cases he
  rw [if_neg v4] at he ⊢
  by_cases v6 : c.verb = 6
  · rw [if_pos v6] at he ⊢
    exact ⟨ht.name, hver, ht.state, ht.deadline, ht.drains, ht.rules, cRight_iff.2 (rot_ok he).isRight⟩
  rw [if_neg v6] at he ⊢
  by_cases a0 : 0 ≤ c.at_
  · rw [if_pos a0] at he ⊢
    rcases insert_cases t.rules c.at_ c.rule with ⟨h1, _⟩ | ⟨_, _, _, _, _, h1, h2⟩
    · exact absurd he h1
    · exact ⟨ht.name, hver, ht.state, ht.deadline, ht.drains, by show aclRight (aclInsert _ _ _).1 = true; rw [h1]; exact h2, ht.creds⟩
  · rw [if_neg a0] at he ⊢
    rcases remove_cases t.rules (IntKind.wrap .i64 (0 - (c.at_ + 1))) with ⟨h1, _⟩ | ⟨_, _, _, h1, h2⟩
    · exact absurd he h1
    · exact ⟨ht.name, hver, ht.state, ht.deadline, ht.drains, by show aclRight (aclRemove _ _).1 = true; rw [h1]; exact h2, ht.creds⟩
theorem apply_out (r : Registry) (role : Int) (c : Command) (now : Int) : Out r role c now (gApply r role c now) := by
  by_cases hf : Fit r now
  rotate_left
  · rw [gApply_bad fun h => hf (fit_iff.2 h)]; exact .none hf
  have hf' := fit_iff.1 hf
  cases hm : roMay role c.verb with
  | false => rw [gApply_may hf' hm]; exact .fail hf _ (by decide) (by decide)
  | true =>
    rw [gApply_do hf' hm]
    unfold doD
    by_cases v1 : c.verb = 1
    · rw [if_pos v1]
      by_cases hn : gIsName c.name = true
      rotate_left
      · rw [if_neg hn]; exact .fail hf _ (by decide) (by decide)
      rw [if_pos hn]
      rcases place_cases r c.name with ⟨i, h1, h2, h3⟩ | ⟨h1, h2⟩
      · rw [h2, if_pos rfl]; exact .fail hf _ (by decide) (by decide)
      rw [h1, if_neg (by simp)]
      by_cases e1 : (sTake r.slots).2.2 = 0
      rotate_left
      · rw [if_pos e1]; exact .fail hf _ e1 (sTake_err _)
      rw [if_neg (by simpa using e1)]
      by_cases e2 : (cRot [] c.key now 0 c.n).2.2 = 0
      rotate_left
      · rw [if_pos e2]; exact .fail hf _ e2 (cRot_err _ _ _ _ _)
      rw [if_neg (by simpa using e2)]
      exact .new hf hm v1 hn h2 e1 e2
    rw [if_neg v1]
    by_cases v9 : c.verb = 9
    · rw [if_pos v9]; exact .list hf hm v9
    rw [if_neg v9]
    rcases place_cases r c.name with ⟨i, h1, h2, h3⟩ | ⟨h1, h2⟩
    rotate_left
    · rw [h1, if_neg (by simp)]; exact .fail hf _ (by decide) (by decide)
    rw [h2, if_pos rfl]
    simp only [Int.toNat_natCast]
    by_cases hw : c.want ≠ 0 ∧ c.want ≠ (r.l.getD i default).version
    · rw [if_pos hw]; exact .fail hf _ (by decide) (by decide)
    rw [if_neg hw]
    have hw' : c.want = 0 ∨ c.want = (r.l.getD i default).version := by
      by_cases w : c.want = 0
      · exact .inl w
      · exact .inr (Classical.byContradiction fun w2 => hw ⟨w, w2⟩)
    unfold changeD
    by_cases v5 : c.verb = 5
    · rw [if_pos v5, show ((i : Int) + 1).toNat = i + 1 by omega]; exact .del hf hm v5 i h1 h3 hw'
    rw [if_neg v5]
    by_cases v8 : c.verb = 8 ∨ c.verb = 10
    · rw [if_pos v8]; exact .look hf hm v8 i h1 h3 hw'
    rw [if_neg v8]
    by_cases he : (chg (r.l.getD i default) c now).2 = 0
    rotate_left
    · rw [if_pos he]; exact .fail hf _ he (chg_err _ _ _)
    rw [if_neg (by simpa using he)]
    have hv := roMay_t hm
    have hk := chg_name (r.l.getD i default) c now
    have hp := hf.right.put hf.lt h1 hk.2.1 hk.1 (chg_ok hf.nn (hf.right.ok _ (getD_mem' h1)) hf.right.seq.1 he)
    rw [hp.1]
    exact .put hf hm (by omega) i h1 h3 hw' he hp.2
theorem new_ok {r : Registry} {c : Command} {now : Int} (h : Fit r now) (hn : gIsName c.name = true) (hf : ∀ t ∈ r.l, t.name ≠ c.name) (h1 : (sTake r.slots).2.2 = 0) (h2 : (cRot [] c.key now 0 c.n).2.2 = 0) : (putX r.l (newT r c now)).Perm (newT r c now :: r.l) ∧ RightR ⟨(sTake r.slots).1, putX r.l (newT r c now), r.seq + 1⟩ :=
  h.right.new h.lt h1 rfl hf ⟨hn, ⟨(show (1 : Int) ≤ 1 by decide), by have := h.right.seq; show (1 : Int) ≤ r.seq + 1; omega⟩, (show (1 : Int) ≤ 1 ∧ (1 : Int) ≤ 3 by decide), (show (0 : Int) ≤ 0 ∧ (0 : Int) ≤ 1000000000000 by decide), .inl rfl, by rfl, cRight_iff.2 (rot_ok h2).isRight⟩
section
variable {r : Registry} {role : Int} {c : Command} {now : Int} {x : Registry × Reply}
theorem Out.right (h : Out r role c now x) (he : x.2.err ≠ 150) : Fit r now ∧ RightR x.1 ∧ x.1.seq = r.seq + 1 ∧ x.2.seq = r.seq + 1 := by
  cases h with
  | none h => exact absurd rfl he
  | fail h e h0 h1 => exact ⟨h, h.right.next h.lt, rfl, rfl⟩
  | new h hm hv hn hf h1 h2 => exact ⟨h, (new_ok h hn hf h1 h2).2, rfl, rfl⟩
  | list h hm hv => exact ⟨h, h.right.next h.lt, rfl, rfl⟩
  | del h hm hv i hi hn hw => exact ⟨h, h.right.del h.lt hi, rfl, rfl⟩
  | look h hm hv i hi hn hw => exact ⟨h, h.right.next h.lt, rfl, rfl⟩
  | put h hm hv i hi hn hw hc hs => exact ⟨h, hs, rfl, rfl⟩
theorem Out.bad (h : Out r role c now x) (he : x.2.err = 150) : ¬ Fit r now ∧ x = noR := by
  cases h with
  | none h => exact ⟨h, rfl⟩
  | fail h e h0 h1 => exact absurd he h1
  | new h hm hv hn hf h1 h2 => cases he
  | list h hm hv => cases he
  | del h hm hv i hi hn hw => cases he
  | look h hm hv i hi hn hw => cases he
  | put h hm hv i hi hn hw hc hs => cases he
theorem Out.err (h : Out r role c now x) (he : x.2.err ≠ 150) (h0 : x.2.err ≠ 0) : Fit r now ∧ x = failR r x.2.err := by
  cases h with
  | none h => exact absurd rfl he
  | fail h e h0 h1 => exact ⟨h, rfl⟩
  | new h hm hv hn hf h1 h2 => exact absurd rfl h0
  | list h hm hv => exact absurd rfl h0
  | del h hm hv i hi hn hw => exact absurd rfl h0
  | look h hm hv i hi hn hw => exact absurd rfl h0
  | put h hm hv i hi hn hw hc hs => exact absurd rfl h0
end
end Go.Proofs.YtopjaeoklkpcpaaGreatDoor.Jd

namespace Go.Proofs.YtopjaeoklkpcpaaGreatDoor.Jd
open Go.Proofs
set_option linter.unusedVariables false
set_option linter.unusedSimpArgs false
set_option maxRecDepth 100000
theorem gApplyJ_eq (r : Registry) (role : Int) (c : Command) (now : Int) : gApplyJ r role c now = gApply r role c now := by
  by_cases h : gRight r = true ∧ r.seq < 1000000000000 ∧ 0 ≤ now ∧ now ≤ 1000000000000
  · cases hm : roMay role c.verb with
    | false =>
      rw [gApply_may h hm]
      unfold gApplyJ
      rw [h.1, if_neg (by simp), if_neg (by omega), if_neg (by omega), if_neg (by omega), hm]; rfl
    | true =>
      rw [gApply_do h hm]
      unfold gApplyJ
      rw [h.1, if_neg (by simp), if_neg (by omega), if_neg (by omega), if_neg (by omega), hm, if_neg (by simp)]
      have hv := roMay_t hm
      unfold doD changeD chg failR newT
      simp only [run0, run1, run6, run14, xA, xN, gPlace_xR]
      generalize r.l.getD (gPlace r c.name).1.toNat default = t
      generalize gPlace r c.name = p
      obtain hv | hv | hv | hv | hv | hv | hv | hv | hv | hv : c.verb = 1 ∨ c.verb = 2 ∨ c.verb = 3 ∨ c.verb = 4 ∨ c.verb = 5 ∨ c.verb = 6 ∨ c.verb = 7 ∨ c.verb = 8 ∨ c.verb = 9 ∨ c.verb = 10 := by omega
      all_goals simp only [hv, Int.reduceEq, if_false, if_true, reduceIte, false_or, or_false, or_true, true_or, or_self]
      · cases gIsName c.name <;> simp
        cases p.2 <;> simp
        by_cases h1 : (sTake r.slots).2.2 = 0 <;> simp [h1]
        by_cases h2 : (cRot [] c.key now 0 c.n).2.2 = 0 <;> simp [h2]
      · cases p.2 <;> simp
        by_cases h1 : c.want = 0 <;> by_cases h2 : c.want = t.version <;> by_cases h3 : t.state = 2 <;> simp [h1, h2, h3] <;> simp_all
      · cases p.2 <;> simp
        by_cases h1 : c.want = 0 <;> by_cases h2 : c.want = t.version <;> by_cases h3 : t.state = 2 <;> simp [h1, h2, h3] <;> simp_all
      · cases p.2 <;> simp
        by_cases h1 : c.want = 0 <;> by_cases h2 : c.want = t.version <;> by_cases h3 : t.state = 1 <;> by_cases h4 : c.n < 1 <;> by_cases h5 : 1000000000 < c.n <;> by_cases h6 : 1000000000000 < now + c.n <;> simp [h1, h2, h3, h4, h5, h6] <;> simp_all
      · cases p.2 <;> simp
        by_cases h1 : c.want = 0 <;> by_cases h2 : c.want = t.version <;> simp [h1, h2] <;> simp_all
      · cases p.2 <;> simp
        by_cases h1 : c.want = 0 <;> by_cases h2 : c.want = t.version <;> by_cases h3 : (cRot t.creds c.key now c.n c.m).2.2 = 0 <;> simp [h1, h2, h3] <;> simp_all
      · cases p.2 <;> simp
        by_cases h1 : c.want = 0 <;> by_cases h2 : c.want = t.version <;> by_cases h3 : 0 ≤ c.at_ <;> by_cases h4 : (aclInsert t.rules c.at_ c.rule).2 = 0 <;> by_cases h5 : (aclRemove t.rules (IntKind.wrap .i64 (0 - (c.at_ + 1)))).2 = 0 <;> simp [h1, h2, h3, h4, h5] <;> simp_all
      · cases p.2 <;> simp
        by_cases h1 : c.want = 0 <;> by_cases h2 : c.want = t.version <;> simp [h1, h2] <;> simp_all
      · rfl
      · cases p.2 <;> simp
        by_cases h1 : c.want = 0 <;> by_cases h2 : c.want = t.version <;> simp [h1, h2] <;> simp_all
  · rw [gApply_bad h]
    unfold gApplyJ
    cases hr : gRight r with
    | false => rfl
    | true =>
      simp only [Bool.not_true, Bool.false_eq_true, if_false]
      by_cases h2 : 1000000000000 ≤ r.seq
      · rw [if_pos h2]; rfl
      rw [if_neg h2]
      by_cases h3 : now < 0
      · rw [if_pos h3]; rfl
      rw [if_neg h3]
      by_cases h4 : 1000000000000 < now
      · rw [if_pos h4]; rfl
      exact absurd ⟨hr, by omega, by omega, by omega⟩ h
end Go.Proofs.YtopjaeoklkpcpaaGreatDoor.Jd

