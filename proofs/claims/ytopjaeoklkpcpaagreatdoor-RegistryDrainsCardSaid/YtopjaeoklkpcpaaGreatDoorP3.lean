/- Part of the proofs of this seat: walks and plain facts. No condition. -/
import Derived.Test.YtopjaeoklkpcpaaGreatDoorP0
import Derived.Test.YtopjaeoklkpcpaaGreatDoorProg
import Derived.Test.YtopjaeoklkpcpaaGreatDoorRows
import Derived.ChangeMaps5
import Derived.Test.YtopjaeoklkpcpaaGreatDoorChecked
import Derived.WalkKit
import Derived.LaidEql
import Derived.Stop.Asserts
import Derived.RowKitTokens
import Derived.Test.YtopjaeoklkpcpaaGreatDoorP2
import Derived.Test.YtopjaeoklkpcpaaGreatDoorP1
namespace Go.Proofs.YtopjaeoklkpcpaaGreatDoor.Jd
open Go.Proofs
open Go.RowKit (Below)
set_option maxRecDepth 100000
set_option maxHeartbeats 8000000
set_option linter.unusedVariables false
set_option linter.unusedSimpArgs false
theorem FO_156_0 : FieldOff Tryz.prog 156 0 0 := fun r k w => by simp [Instr.fieldAt, Instr.sureAddr, fieldPlace, addr_add]
theorem FO_156_2 : FieldOff Tryz.prog 156 2 2 := fun r k w => by simp [Instr.fieldAt, Instr.sureAddr, fieldPlace, addr_add]
theorem roSets_ok (w : World) {r : Int} : Val Tryz.prog 139 [(vi r)] w (vi (roSets r)) := by
 have hF := Is.refl (roSets r)
 refine enter Tryz.func139 Tryz.ntmps139 (h := ?_)
 refine Z195 ?_
 refine Z104 ?_
 refine Z305 ?_
 refine Z25 ?_
 refine Z25 ?_
 refine Z25 ?_
 refine J_seq ?_
 refine J_seq ?_
 refine Z2 ?_
 refine Z378 ?_
 refine J_dec rfl (fun hq1 => ?_) (fun hq1 => ?_)
 ·refine J_exit ?_
  refine JX_seq_exit ?_
  refine Z354 ?_
  refine JX_seq ?_
  refine Z117 ?_
  refine JL_q q_orW (k := ?_)
  refine Z59 ?_
  refine Z17 ?_
  refine Z117 ?_
  refine JL_q q_orW (k := ?_)
  refine Z59 ?_
  refine Z17 ?_
  refine Z4 ?_
  refine JL_q q_orW (k := ?_)
  refine Z1 ?_
  refine J_exit ?_
  refine JX_block_hit ?_
  refine JX_seq ?_
  refine Z4 ?_
  refine Z6 ?_
  refine JX_ret Tryz.results139 (Res.tmp rfl Res.nil) (fun w1 hw1 => ?_)
  exact ⟨(by rw [(hF.pos hq1).eq] <;> first | rfl | (simp only [List.length_set] <;> rfl)), hw1.ext_out⟩
 refine Z167 ?_
 refine Z2 ?_
 refine Z378 ?_
 refine J_dec rfl (fun hq2 => ?_) (fun hq2 => ?_)
 ·refine J_exit ?_
  refine JX_seq_exit ?_
  refine Z457 ?_
  refine Z354 ?_
  refine JX_seq ?_
  refine Z117 ?_
  refine JL_q q_orW (k := ?_)
  refine Z59 ?_
  refine Z17 ?_
  refine Z4 ?_
  refine JL_q q_orW (k := ?_)
  refine Z1 ?_
  refine J_exit ?_
  refine JX_block_hit ?_
  refine JX_seq ?_
  refine Z4 ?_
  refine Z6 ?_
  refine JX_ret Tryz.results139 (Res.tmp rfl Res.nil) (fun w1 hw1 => ?_)
  exact ⟨(by rw [((hF.neg hq1).pos hq2).eq] <;> first | rfl | (simp only [List.length_set] <;> rfl)), hw1.ext_out⟩
 refine Z390 ?_
 refine Z378 ?_
 refine J_dec rfl (fun hq3 => ?_) (fun hq3 => ?_)
 rotate_left
 ·refine J_skip ?_
  refine JX_seq ?_
  refine Z397 ?_
  refine Z457 ?_
  refine Z457 ?_
  refine Z354 ?_
  refine JX_seq ?_
  refine Z4 ?_
  refine Z6 ?_
  refine JX_ret Tryz.results139 (Res.tmp rfl Res.nil) (fun w1 hw1 => ?_)
  exact ⟨(by rw [(((hF.neg hq1).neg hq2).neg hq3).eq] <;> first | rfl | (simp only [List.length_set] <;> rfl)), hw1.ext_out⟩
 refine J_exit ?_
 refine Z457 ?_
 refine Z457 ?_
 refine Z354 ?_
 refine JX_seq ?_
 refine Z4 ?_
 refine JL_q q_orW (k := ?_)
 refine Z1 ?_
 refine J_exit ?_
 refine JX_block_hit ?_
 refine JX_seq ?_
 refine Z4 ?_
 refine Z6 ?_
 refine JX_ret Tryz.results139 (Res.tmp rfl Res.nil) (fun w1 hw1 => ?_)
 exact ⟨(by rw [(((hF.neg hq1).neg hq2).pos hq3).eq] <;> first | rfl | (simp only [List.length_set] <;> rfl)), hw1.ext_out⟩

theorem roVerbs_ok (w : World) {ea0 : Addr} {ea1 : Addr} {ea2 : Addr} {ea3 : Addr} {n_ : Int} (hG : Gl w) (hE : Er w ea0 ea1 ea2 ea3) : Calls Tryz.prog 73 (List.toArray [(vi n_)]) w fun e w2 => ∃ a1 : Option Addr, ∃ c1 : Nat, ∃ B1 : Heap, e = .returned (vs a1 ((roVerbs n_).length) c1) ∧ Fresh w w2 B1 ∧ OwnB eI 1 3 a1 c1 B1 (roVerbs n_) ∧ (roVerbs n_).length ≤ 10 := by
 have hF := Is.refl (roVerbs n_)
 refine enterD Tryz.func73 Tryz.ntmps73 (h := ?_)
 refine Z195 ?_
 refine JL_a noMk (a_alloc (l := [_]) Tryz.zeroValue22) (k := fun r1 hr1 => ?_)
 refine Z72 ?_
 refine Z4 ?_
 refine JL_q q_func (k := ?_)
 refine JL_inl (args := [_]) (c_callA Tryz.call108) Tryz.func108 Tryz.ntmps108 ?_
 refine Z2 ?_
 refine JL_a noMk (a_box (l := [_])) (k := fun r2 hr2 => ?_)
 refine Z438 ?_
 refine JX_retI Tryz.results108 (Res.tmp rfl Res.nil) ?_
 refine Z305 ?_
 refine J_rangeI noMk rfl Tryz.call138 Tryz.func138 Tryz.ntmps138 (fun l3 rD3 rr3 hl3 => ?_)
 refine Z439 ?_
 obtain ⟨Thgl1, fhgl1, hgl1⟩ := hG.vb
 refine JL_q (q_loadAB Tryz.isAgg193 Tryz.sizeOf193 hgl1) (k := ?_)
 refine Z283 ?_
 refine Z69 ?_
 refine JL_q (q_idxAg (m := 0) (n := 3) Tryz.runUnderlying193 Tryz.sizeOf156 Tryz.isAgg156) (k := ?_)
 refine JL_a noMk (a_alloc (l := [_, _, _]) Tryz.zeroValue156) (k := fun r4 hr4 => ?_)
 refine Z172 ?_
 refine JL_a noMk (a_box (l := [_, _, _])) (k := fun r5 hr5 => ?_)
 refine Z164 ?_
 refine JL_dec 12 rfl (fun hq2 => ?_) (fun hq2 => ?_)
 rotate_left
 ·refine JL_skips 4 rfl ?_
  refine Z98 ?_
  refine Z100 ?_
  refine JL_q (q_idxAg (m := 1) (n := 3) Tryz.runUnderlying193 Tryz.sizeOf156 Tryz.isAgg156) (k := ?_)
  refine JL_a noMk (a_alloc (l := [_, _, _]) Tryz.zeroValue156) (k := fun r74 hr74 => ?_)
  refine Z172 ?_
  refine JL_a noMk (a_box (l := [_, _, _])) (k := fun r75 hr75 => ?_)
  refine Z164 ?_
  refine JL_dec 12 rfl (fun hq22 => ?_) (fun hq22 => ?_)
  rotate_left
  ·refine JL_skips 4 rfl ?_
   refine Z98 ?_
   refine Z293 ?_
   refine JL_a noMk (a_alloc (l := [_, _, _]) Tryz.zeroValue156) (k := fun r106 hr106 => ?_)
   refine Z172 ?_
   refine JL_a noMk (a_box (l := [_, _, _])) (k := fun r107 hr107 => ?_)
   refine Z164 ?_
   refine JL_dec 12 rfl (fun hq32 => ?_) (fun hq32 => ?_)
   ·exact absurd hq32 hq22
   refine Z227 ?_
   refine Z294 ?_
   refine JL_a noMk (a_alloc (l := [_, _, _]) Tryz.zeroValue156) (k := fun r108 hr108 => ?_)
   refine Z172 ?_
   refine JL_a noMk (a_box (l := [_, _, _])) (k := fun r109 hr109 => ?_)
   refine Z164 ?_
   refine JL_dec 12 rfl (fun hq33 => ?_) (fun hq33 => ?_)
   ·exact absurd hq33 hq22
   refine Z227 ?_
   refine Z295 ?_
   refine JL_a noMk (a_alloc (l := [_, _, _]) Tryz.zeroValue156) (k := fun r110 hr110 => ?_)
   refine Z172 ?_
   refine JL_a noMk (a_box (l := [_, _, _])) (k := fun r111 hr111 => ?_)
   refine Z164 ?_
   refine JL_dec 12 rfl (fun hq34 => ?_) (fun hq34 => ?_)
   ·exact absurd hq34 hq2
   refine Z227 ?_
   refine Z296 ?_
   refine JL_a noMk (a_alloc (l := [_, _, _]) Tryz.zeroValue156) (k := fun r112 hr112 => ?_)
   refine Z172 ?_
   refine JL_a noMk (a_box (l := [_, _, _])) (k := fun r113 hr113 => ?_)
   refine Z164 ?_
   refine JL_dec 12 rfl (fun hq35 => ?_) (fun hq35 => ?_)
   ·exact absurd hq35 hq2
   refine Z227 ?_
   refine Z297 ?_
   refine JL_a noMk (a_alloc (l := [_, _, _]) Tryz.zeroValue156) (k := fun r114 hr114 => ?_)
   refine Z172 ?_
   refine JL_a noMk (a_box (l := [_, _, _])) (k := fun r115 hr115 => ?_)
   refine Z164 ?_
   refine JL_dec 12 rfl (fun hq36 => ?_) (fun hq36 => ?_)
   ·exact absurd hq36 hq2
   refine Z227 ?_
   refine Z298 ?_
   refine JL_a noMk (a_alloc (l := [_, _, _]) Tryz.zeroValue156) (k := fun r116 hr116 => ?_)
   refine Z172 ?_
   refine JL_a noMk (a_box (l := [_, _, _])) (k := fun r117 hr117 => ?_)
   refine Z164 ?_
   refine JL_dec 12 rfl (fun hq37 => ?_) (fun hq37 => ?_)
   ·exact absurd hq37 hq22
   refine Z227 ?_
   refine Z299 ?_
   refine JL_a noMk (a_alloc (l := [_, _, _]) Tryz.zeroValue156) (k := fun r118 hr118 => ?_)
   refine Z172 ?_
   refine JL_a noMk (a_box (l := [_, _, _])) (k := fun r119 hr119 => ?_)
   refine Z164 ?_
   refine JL_dec 12 rfl (fun hq38 => ?_) (fun hq38 => ?_)
   rotate_left
   ·refine JL_skips 4 rfl ?_
    refine Z98 ?_
    refine Z142 ?_
    refine JL_a noMk (a_alloc (l := [_, _, _]) Tryz.zeroValue156) (k := fun r126 hr126 => ?_)
    refine Z172 ?_
    refine JL_a noMk (a_box (l := [_, _, _])) (k := fun r127 hr127 => ?_)
    refine Z164 ?_
    refine JL_dec 12 rfl (fun hq40 => ?_) (fun hq40 => ?_)
    ·exact absurd hq40 hq38
    refine Z227 ?_
    refine Z250 ?_
    refine Z191 ?_
    refine JX_it0 (.inr rfl) Tryz.results138 (qa (qa (qa (qa (qa (qa (qa (qa (qa (qa (qa (qa (qa (qa (qa (qa (qa (qa (qa (qa q0)))))))))))))))))))) ?_
    refine Z17 ?_
    refine Z288 ?_
    refine Z6 ?_
    refine JX_retD [rD3] (qa (qa (qa (qa (qa (qa (qa (qa (qa (qa (qa (qa (qa (qa (qa (qa (qa (qa (qa (qa (qa q0))))))))))))))))))))) Tryz.results73 (Res.tmp rfl Res.nil) (fun w1 hw1 => ?_)
    exact ⟨none, 0, [], (by rw [(((hF.neg hq2).neg hq22).neg hq38).eq] <;> first | rfl | (simp only [List.length_set] <;> rfl)), (hw1.fresh_out.sub (List.nil_sublist _)), (by rw [(((hF.neg hq2).neg hq22).neg hq38).eq]; exact OwnB.nil), (by rw [(((hF.neg hq2).neg hq22).neg hq38).eq]; first | omega | (simp only [List.length_append, List.length_cons, List.length_nil]; omega) | (simp; omega) | (simp; done))⟩
   refine Z53 ?_
   refine JL_yIng (vs := [(Value.agg [(vi 9), (vt ([108, 105, 115, 116] : Str)), (vi 1)].toArray)]) hl3 (qa (qa (qa (qa (qa (qa (qa (qa (qa (qa (qa (qa (qa (qa (qa (qa (qa (qa q0)))))))))))))))))) y_call ?_
   refine Z486 ?_
   refine JL_a noMk (a_alloc (l := [_, _, _]) Tryz.zeroValue156) (k := fun r120 hr120 => ?_)
   refine Z239 ?_
   refine JL_a noMk (a_bslice (l := [_]) Tryz.runUnderlying22 Tryz.sizeOf3 Tryz.zeroValue3) (k := fun r121 hr121 => ?_)
   refine JL_append ([9] : List Int) (List.nil_append _) TY_3 Tryz.underlying22 eI_ok OwnB.nil (List.Perm.refl _) (SlJ.lit (xs := ([9] : List Int)) eI_ok) ⟨by first | omega | (simp only [List.length_append, List.length_cons, List.length_nil]; omega) | (simp; omega) | (simp; done), by first | omega | (simp only [List.length_append, List.length_cons, List.length_nil]; omega) | (simp; omega) | (simp; done)⟩ (n := 0) (m := 1) (k := fun ax22 cx22 Bx22 hox22 => ?_)
   refine Z240 ?_
   refine Z142 ?_
   refine JL_a noMk (a_alloc (l := [_, _, _]) Tryz.zeroValue156) (k := fun r122 hr122 => ?_)
   refine Z172 ?_
   refine JL_a noMk (a_box (l := [_, _, _])) (k := fun r123 hr123 => ?_)
   refine Z164 ?_
   refine JL_dec 12 rfl (fun hq39 => ?_) (fun hq39 => ?_)
   rotate_left
   ·exact absurd hq38 hq39
   refine Z53 ?_
   refine Z244 ?_
   refine JL_a noMk (a_alloc (l := [_, _, _]) Tryz.zeroValue156) (k := fun r124 hr124 => ?_)
   refine Z239 ?_
   refine JL_a noMk (a_bslice (l := [_]) Tryz.runUnderlying22 Tryz.sizeOf3 Tryz.zeroValue3) (k := fun r125 hr125 => ?_)
   refine JL_append (([9] : List Int) ++ ([10] : List Int)) rfl TY_3 Tryz.underlying22 eI_ok hox22 (qb (qb (qb (qb (qb q0))))) (SlJ.lit (xs := ([10] : List Int)) eI_ok) ⟨by first | omega | (simp only [List.length_append, List.length_cons, List.length_nil]; omega) | (simp; omega) | (simp; done), by first | omega | (simp only [List.length_append, List.length_cons, List.length_nil]; omega) | (simp; omega) | (simp; done)⟩ (n := ([9] : List Int).length) (m := 1) (k := fun ax23 cx23 Bx23 hox23 => ?_)
   have hal23 : (([9] : List Int) ++ ([10] : List Int)).length = ([9] : List Int).length + 1 := by first | rfl | exact List.length_append | simp
   refine Z240 ?_
   refine Z250 ?_
   refine Z459 ?_
   refine Z17 ?_
   refine Z288 ?_
   refine Z6 ?_
   refine JX_retD [rD3] (qa (qc (qa (qa (qa (qa (qa (qa (qa (qa (qa (qa (qa (qa (qa (qa (qa (qa (qa (qa (qa (qa (qa (qa (qa (qa q0)))))))))))))))))))))))))) Tryz.results73 (Res.tmp rfl Res.nil) (fun w1 hw1 => ?_)
   exact ⟨ax23, cx23, Bx23, (by rw [(((hF.neg hq2).neg hq22).pos hq38).eq] <;> first | rfl | (simp only [List.length_set] <;> rfl)), (fresh_segs (L := Bx23) (hw1.perm (qb q0)) rfl.symm), (by rw [(((hF.neg hq2).neg hq22).pos hq38).eq]; exact hox23), (by rw [(((hF.neg hq2).neg hq22).pos hq38).eq]; first | omega | (simp only [List.length_append, List.length_cons, List.length_nil]; omega) | (simp; omega) | (simp; done))⟩
  refine Z53 ?_
  refine JL_yIng (vs := [(Value.agg [(vi 2), (vt ([115, 117, 115, 112, 101, 110, 100] : Str)), (vi 2)].toArray)]) hl3 (qa (qa (qa (qa q0)))) y_call ?_
  refine Z486 ?_
  refine JL_a noMk (a_alloc (l := [_, _, _]) Tryz.zeroValue156) (k := fun r76 hr76 => ?_)
  refine Z239 ?_
  refine JL_a noMk (a_bslice (l := [_]) Tryz.runUnderlying22 Tryz.sizeOf3 Tryz.zeroValue3) (k := fun r77 hr77 => ?_)
  refine JL_append ([2] : List Int) (List.nil_append _) TY_3 Tryz.underlying22 eI_ok OwnB.nil (List.Perm.refl _) (SlJ.lit (xs := ([2] : List Int)) eI_ok) ⟨by first | omega | (simp only [List.length_append, List.length_cons, List.length_nil]; omega) | (simp; omega) | (simp; done), by first | omega | (simp only [List.length_append, List.length_cons, List.length_nil]; omega) | (simp; omega) | (simp; done)⟩ (n := 0) (m := 1) (k := fun ax16 cx16 Bx16 hox16 => ?_)
  refine Z240 ?_
  refine Z293 ?_
  refine JL_a noMk (a_alloc (l := [_, _, _]) Tryz.zeroValue156) (k := fun r78 hr78 => ?_)
  refine Z172 ?_
  refine JL_a noMk (a_box (l := [_, _, _])) (k := fun r79 hr79 => ?_)
  refine Z164 ?_
  refine JL_dec 12 rfl (fun hq23 => ?_) (fun hq23 => ?_)
  rotate_left
  ·exact absurd hq22 hq23
  refine Z53 ?_
  refine JL_yIng (vs := [(Value.agg [(vi 3), (vt ([114, 101, 115, 117, 109, 101] : Str)), (vi 2)].toArray)]) hl3 (qa (qa q0)) y_call ?_
  refine Z486 ?_
  refine JL_a noMk (a_alloc (l := [_, _, _]) Tryz.zeroValue156) (k := fun r80 hr80 => ?_)
  refine Z239 ?_
  refine JL_a noMk (a_bslice (l := [_]) Tryz.runUnderlying22 Tryz.sizeOf3 Tryz.zeroValue3) (k := fun r81 hr81 => ?_)
  refine JL_append (([2] : List Int) ++ ([3] : List Int)) rfl TY_3 Tryz.underlying22 eI_ok hox16 (qb (qb (qb (qb (qb q0))))) (SlJ.lit (xs := ([3] : List Int)) eI_ok) ⟨by first | omega | (simp only [List.length_append, List.length_cons, List.length_nil]; omega) | (simp; omega) | (simp; done), by first | omega | (simp only [List.length_append, List.length_cons, List.length_nil]; omega) | (simp; omega) | (simp; done)⟩ (n := ([2] : List Int).length) (m := 1) (k := fun ax17 cx17 Bx17 hox17 => ?_)
  have hal17 : (([2] : List Int) ++ ([3] : List Int)).length = ([2] : List Int).length + 1 := by first | rfl | exact List.length_append | simp
  refine Z240 ?_
  refine Z294 ?_
  refine JL_a noMk (a_alloc (l := [_, _, _]) Tryz.zeroValue156) (k := fun r82 hr82 => ?_)
  refine Z172 ?_
  refine JL_a noMk (a_box (l := [_, _, _])) (k := fun r83 hr83 => ?_)
  refine Z164 ?_
  refine JL_dec 12 rfl (fun hq24 => ?_) (fun hq24 => ?_)
  rotate_left
  ·exact absurd hq22 hq24
  refine Z53 ?_
  refine JL_yIng (vs := [(Value.agg [(vi 4), (vt ([100, 114, 97, 105, 110] : Str)), (vi 2)].toArray)]) hl3 (qa (qa q0)) y_call ?_
  refine Z486 ?_
  refine JL_a noMk (a_alloc (l := [_, _, _]) Tryz.zeroValue156) (k := fun r84 hr84 => ?_)
  refine Z239 ?_
  refine JL_a noMk (a_bslice (l := [_]) Tryz.runUnderlying22 Tryz.sizeOf3 Tryz.zeroValue3) (k := fun r85 hr85 => ?_)
  refine JL_append ((([2] : List Int) ++ ([3] : List Int)) ++ ([4] : List Int)) rfl TY_3 Tryz.underlying22 eI_ok hox17 (qb (qb (qb (qb (qb q0))))) (SlJ.lit (xs := ([4] : List Int)) eI_ok) ⟨by first | omega | (simp only [List.length_append, List.length_cons, List.length_nil]; omega) | (simp; omega) | (simp; done), by first | omega | (simp only [List.length_append, List.length_cons, List.length_nil]; omega) | (simp; omega) | (simp; done)⟩ (n := (([2] : List Int) ++ ([3] : List Int)).length) (m := 1) (k := fun ax18 cx18 Bx18 hox18 => ?_)
  have hal18 : ((([2] : List Int) ++ ([3] : List Int)) ++ ([4] : List Int)).length = (([2] : List Int) ++ ([3] : List Int)).length + 1 := by first | rfl | exact List.length_append | simp
  refine Z240 ?_
  refine Z295 ?_
  refine JL_a noMk (a_alloc (l := [_, _, _]) Tryz.zeroValue156) (k := fun r86 hr86 => ?_)
  refine Z172 ?_
  refine JL_a noMk (a_box (l := [_, _, _])) (k := fun r87 hr87 => ?_)
  refine Z164 ?_
  refine JL_dec 12 rfl (fun hq25 => ?_) (fun hq25 => ?_)
  ·exact absurd hq25 hq2
  refine Z227 ?_
  refine Z296 ?_
  refine JL_a noMk (a_alloc (l := [_, _, _]) Tryz.zeroValue156) (k := fun r88 hr88 => ?_)
  refine Z172 ?_
  refine JL_a noMk (a_box (l := [_, _, _])) (k := fun r89 hr89 => ?_)
  refine Z164 ?_
  refine JL_dec 12 rfl (fun hq26 => ?_) (fun hq26 => ?_)
  ·exact absurd hq26 hq2
  refine Z227 ?_
  refine Z297 ?_
  refine JL_a noMk (a_alloc (l := [_, _, _]) Tryz.zeroValue156) (k := fun r90 hr90 => ?_)
  refine Z172 ?_
  refine JL_a noMk (a_box (l := [_, _, _])) (k := fun r91 hr91 => ?_)
  refine Z164 ?_
  refine JL_dec 12 rfl (fun hq27 => ?_) (fun hq27 => ?_)
  ·exact absurd hq27 hq2
  refine Z227 ?_
  refine Z298 ?_
  refine JL_a noMk (a_alloc (l := [_, _, _]) Tryz.zeroValue156) (k := fun r92 hr92 => ?_)
  refine Z172 ?_
  refine JL_a noMk (a_box (l := [_, _, _])) (k := fun r93 hr93 => ?_)
  refine Z164 ?_
  refine JL_dec 12 rfl (fun hq28 => ?_) (fun hq28 => ?_)
  rotate_left
  ·exact absurd hq22 hq28
  refine Z53 ?_
  refine JL_yIng (vs := [(Value.agg [(vi 8), (vt ([107, 105, 108, 108] : Str)), (vi 2)].toArray)]) hl3 (qa (qa (qa (qa (qa (qa (qa (qa q0)))))))) y_call ?_
  refine Z486 ?_
  refine JL_a noMk (a_alloc (l := [_, _, _]) Tryz.zeroValue156) (k := fun r94 hr94 => ?_)
  refine Z239 ?_
  refine JL_a noMk (a_bslice (l := [_]) Tryz.runUnderlying22 Tryz.sizeOf3 Tryz.zeroValue3) (k := fun r95 hr95 => ?_)
  refine JL_append (((([2] : List Int) ++ ([3] : List Int)) ++ ([4] : List Int)) ++ ([8] : List Int)) rfl TY_3 Tryz.underlying22 eI_ok hox18 (qb (qb (qb (qb (qb (qb (qb (qb (qb (qb (qb q0))))))))))) (SlJ.lit (xs := ([8] : List Int)) eI_ok) ⟨by first | omega | (simp only [List.length_append, List.length_cons, List.length_nil]; omega) | (simp; omega) | (simp; done), by first | omega | (simp only [List.length_append, List.length_cons, List.length_nil]; omega) | (simp; omega) | (simp; done)⟩ (n := ((([2] : List Int) ++ ([3] : List Int)) ++ ([4] : List Int)).length) (m := 1) (k := fun ax19 cx19 Bx19 hox19 => ?_)
  have hal19 : (((([2] : List Int) ++ ([3] : List Int)) ++ ([4] : List Int)) ++ ([8] : List Int)).length = ((([2] : List Int) ++ ([3] : List Int)) ++ ([4] : List Int)).length + 1 := by first | rfl | exact List.length_append | simp
  refine Z240 ?_
  refine Z299 ?_
  refine JL_a noMk (a_alloc (l := [_, _, _]) Tryz.zeroValue156) (k := fun r96 hr96 => ?_)
  refine Z172 ?_
  refine JL_a noMk (a_box (l := [_, _, _])) (k := fun r97 hr97 => ?_)
  refine Z164 ?_
  refine JL_dec 12 rfl (fun hq29 => ?_) (fun hq29 => ?_)
  rotate_left
  ·refine JL_skips 4 rfl ?_
   refine Z98 ?_
   refine Z142 ?_
   refine JL_a noMk (a_alloc (l := [_, _, _]) Tryz.zeroValue156) (k := fun r104 hr104 => ?_)
   refine Z172 ?_
   refine JL_a noMk (a_box (l := [_, _, _])) (k := fun r105 hr105 => ?_)
   refine Z164 ?_
   refine JL_dec 12 rfl (fun hq31 => ?_) (fun hq31 => ?_)
   ·exact absurd hq31 hq29
   refine Z227 ?_
   refine Z250 ?_
   refine Z191 ?_
   refine JX_it0 (.inr rfl) Tryz.results138 (qa (qa (qa (qa q0)))) ?_
   refine Z17 ?_
   refine Z288 ?_
   refine Z6 ?_
   refine JX_retD [rD3] (qa (qa (qa (qa (qa (qc (qa (qa (qa (qa (qa (qa (qa (qa (qa (qa (qa (qa (qa (qa (qa (qa (qa (qa (qa (qa (qa (qa (qa (qa q0)))))))))))))))))))))))))))))) Tryz.results73 (Res.tmp rfl Res.nil) (fun w1 hw1 => ?_)
   exact ⟨ax19, cx19, Bx19, (by rw [(((hF.neg hq2).pos hq22).neg hq29).eq] <;> first | rfl | (simp only [List.length_set] <;> rfl)), (fresh_segs (L := Bx19) (hw1.perm (qb (qb (qb (qb (qb q0)))))) rfl.symm), (by rw [(((hF.neg hq2).pos hq22).neg hq29).eq]; exact hox19), (by rw [(((hF.neg hq2).pos hq22).neg hq29).eq]; first | omega | (simp only [List.length_append, List.length_cons, List.length_nil]; omega) | (simp; omega) | (simp; done))⟩
  refine Z53 ?_
  refine JL_yIng (vs := [(Value.agg [(vi 9), (vt ([108, 105, 115, 116] : Str)), (vi 1)].toArray)]) hl3 (qa (qa q0)) y_call ?_
  refine Z486 ?_
  refine JL_a noMk (a_alloc (l := [_, _, _]) Tryz.zeroValue156) (k := fun r98 hr98 => ?_)
  refine Z239 ?_
  refine JL_a noMk (a_bslice (l := [_]) Tryz.runUnderlying22 Tryz.sizeOf3 Tryz.zeroValue3) (k := fun r99 hr99 => ?_)
  refine JL_append ((((([2] : List Int) ++ ([3] : List Int)) ++ ([4] : List Int)) ++ ([8] : List Int)) ++ ([9] : List Int)) rfl TY_3 Tryz.underlying22 eI_ok hox19 (qb (qb (qb (qb (qb q0))))) (SlJ.lit (xs := ([9] : List Int)) eI_ok) ⟨by first | omega | (simp only [List.length_append, List.length_cons, List.length_nil]; omega) | (simp; omega) | (simp; done), by first | omega | (simp only [List.length_append, List.length_cons, List.length_nil]; omega) | (simp; omega) | (simp; done)⟩ (n := (((([2] : List Int) ++ ([3] : List Int)) ++ ([4] : List Int)) ++ ([8] : List Int)).length) (m := 1) (k := fun ax20 cx20 Bx20 hox20 => ?_)
  have hal20 : ((((([2] : List Int) ++ ([3] : List Int)) ++ ([4] : List Int)) ++ ([8] : List Int)) ++ ([9] : List Int)).length = (((([2] : List Int) ++ ([3] : List Int)) ++ ([4] : List Int)) ++ ([8] : List Int)).length + 1 := by first | rfl | exact List.length_append | simp
  refine Z240 ?_
  refine Z142 ?_
  refine JL_a noMk (a_alloc (l := [_, _, _]) Tryz.zeroValue156) (k := fun r100 hr100 => ?_)
  refine Z172 ?_
  refine JL_a noMk (a_box (l := [_, _, _])) (k := fun r101 hr101 => ?_)
  refine Z164 ?_
  refine JL_dec 12 rfl (fun hq30 => ?_) (fun hq30 => ?_)
  rotate_left
  ·exact absurd hq29 hq30
  refine Z53 ?_
  refine Z244 ?_
  refine JL_a noMk (a_alloc (l := [_, _, _]) Tryz.zeroValue156) (k := fun r102 hr102 => ?_)
  refine Z239 ?_
  refine JL_a noMk (a_bslice (l := [_]) Tryz.runUnderlying22 Tryz.sizeOf3 Tryz.zeroValue3) (k := fun r103 hr103 => ?_)
  refine JL_append (((((([2] : List Int) ++ ([3] : List Int)) ++ ([4] : List Int)) ++ ([8] : List Int)) ++ ([9] : List Int)) ++ ([10] : List Int)) rfl TY_3 Tryz.underlying22 eI_ok hox20 (qb (qb (qb (qb (qb q0))))) (SlJ.lit (xs := ([10] : List Int)) eI_ok) ⟨by first | omega | (simp only [List.length_append, List.length_cons, List.length_nil]; omega) | (simp; omega) | (simp; done), by first | omega | (simp only [List.length_append, List.length_cons, List.length_nil]; omega) | (simp; omega) | (simp; done)⟩ (n := ((((([2] : List Int) ++ ([3] : List Int)) ++ ([4] : List Int)) ++ ([8] : List Int)) ++ ([9] : List Int)).length) (m := 1) (k := fun ax21 cx21 Bx21 hox21 => ?_)
  have hal21 : (((((([2] : List Int) ++ ([3] : List Int)) ++ ([4] : List Int)) ++ ([8] : List Int)) ++ ([9] : List Int)) ++ ([10] : List Int)).length = ((((([2] : List Int) ++ ([3] : List Int)) ++ ([4] : List Int)) ++ ([8] : List Int)) ++ ([9] : List Int)).length + 1 := by first | rfl | exact List.length_append | simp
  refine Z240 ?_
  refine Z250 ?_
  refine Z459 ?_
  refine Z17 ?_
  refine Z288 ?_
  refine Z6 ?_
  refine JX_retD [rD3] (qa (qc (qa (qa (qa (qa (qa (qa (qa (qa (qa (qa (qa (qa (qa (qa (qa (qa (qa (qa (qa (qa (qa (qa (qa (qa (qa (qa (qa (qa (qa (qa (qa (qa q0)))))))))))))))))))))))))))))))))) Tryz.results73 (Res.tmp rfl Res.nil) (fun w1 hw1 => ?_)
  exact ⟨ax21, cx21, Bx21, (by rw [(((hF.neg hq2).pos hq22).pos hq29).eq] <;> first | rfl | (simp only [List.length_set] <;> rfl)), (fresh_segs (L := Bx21) (hw1.perm (qb q0)) rfl.symm), (by rw [(((hF.neg hq2).pos hq22).pos hq29).eq]; exact hox21), (by rw [(((hF.neg hq2).pos hq22).pos hq29).eq]; first | omega | (simp only [List.length_append, List.length_cons, List.length_nil]; omega) | (simp; omega) | (simp; done))⟩
 refine Z53 ?_
 refine JL_yIng (vs := [(Value.agg [(vi 1), (vt ([99, 114, 101, 97, 116, 101] : Str)), (vi 4)].toArray)]) hl3 (qa (qa q0)) y_call ?_
 refine Z486 ?_
 refine JL_a noMk (a_alloc (l := [_, _, _]) Tryz.zeroValue156) (k := fun r6 hr6 => ?_)
 refine Z239 ?_
 refine JL_a noMk (a_bslice (l := [_]) Tryz.runUnderlying22 Tryz.sizeOf3 Tryz.zeroValue3) (k := fun r7 hr7 => ?_)
 refine JL_append ([1] : List Int) (List.nil_append _) TY_3 Tryz.underlying22 eI_ok OwnB.nil (List.Perm.refl _) (SlJ.lit (xs := ([1] : List Int)) eI_ok) ⟨by first | omega | (simp only [List.length_append, List.length_cons, List.length_nil]; omega) | (simp; omega) | (simp; done), by first | omega | (simp only [List.length_append, List.length_cons, List.length_nil]; omega) | (simp; omega) | (simp; done)⟩ (n := 0) (m := 1) (k := fun ax1 cx1 Bx1 hox1 => ?_)
 refine Z240 ?_
 refine Z100 ?_
 refine JL_q (q_idxAg (m := 1) (n := 3) Tryz.runUnderlying193 Tryz.sizeOf156 Tryz.isAgg156) (k := ?_)
 refine JL_a noMk (a_alloc (l := [_, _, _]) Tryz.zeroValue156) (k := fun r8 hr8 => ?_)
 refine Z172 ?_
 refine JL_a noMk (a_box (l := [_, _, _])) (k := fun r9 hr9 => ?_)
 refine Z164 ?_
 refine JL_dec 12 rfl (fun hq3 => ?_) (fun hq3 => ?_)
 rotate_left
 ·refine JL_skips 4 rfl ?_
  refine Z98 ?_
  refine Z293 ?_
  refine JL_a noMk (a_alloc (l := [_, _, _]) Tryz.zeroValue156) (k := fun r46 hr46 => ?_)
  refine Z172 ?_
  refine JL_a noMk (a_box (l := [_, _, _])) (k := fun r47 hr47 => ?_)
  refine Z164 ?_
  refine JL_dec 12 rfl (fun hq13 => ?_) (fun hq13 => ?_)
  ·exact absurd hq13 hq3
  refine Z227 ?_
  refine Z294 ?_
  refine JL_a noMk (a_alloc (l := [_, _, _]) Tryz.zeroValue156) (k := fun r48 hr48 => ?_)
  refine Z172 ?_
  refine JL_a noMk (a_box (l := [_, _, _])) (k := fun r49 hr49 => ?_)
  refine Z164 ?_
  refine JL_dec 12 rfl (fun hq14 => ?_) (fun hq14 => ?_)
  ·exact absurd hq14 hq3
  refine Z227 ?_
  refine Z295 ?_
  refine JL_a noMk (a_alloc (l := [_, _, _]) Tryz.zeroValue156) (k := fun r50 hr50 => ?_)
  refine Z172 ?_
  refine JL_a noMk (a_box (l := [_, _, _])) (k := fun r51 hr51 => ?_)
  refine Z164 ?_
  refine JL_dec 12 rfl (fun hq15 => ?_) (fun hq15 => ?_)
  rotate_left
  ·exact absurd hq2 hq15
  refine Z53 ?_
  refine JL_yIng (vs := [(Value.agg [(vi 5), (vt ([100, 101, 108, 101, 116, 101] : Str)), (vi 4)].toArray)]) hl3 (qa (qa (qa (qa (qa (qa (qa (qa q0)))))))) y_call ?_
  refine Z486 ?_
  refine JL_a noMk (a_alloc (l := [_, _, _]) Tryz.zeroValue156) (k := fun r52 hr52 => ?_)
  refine Z239 ?_
  refine JL_a noMk (a_bslice (l := [_]) Tryz.runUnderlying22 Tryz.sizeOf3 Tryz.zeroValue3) (k := fun r53 hr53 => ?_)
  refine JL_append (([1] : List Int) ++ ([5] : List Int)) rfl TY_3 Tryz.underlying22 eI_ok hox1 (qb (qb (qb (qb (qb (qb (qb (qb (qb (qb (qb q0))))))))))) (SlJ.lit (xs := ([5] : List Int)) eI_ok) ⟨by first | omega | (simp only [List.length_append, List.length_cons, List.length_nil]; omega) | (simp; omega) | (simp; done), by first | omega | (simp only [List.length_append, List.length_cons, List.length_nil]; omega) | (simp; omega) | (simp; done)⟩ (n := ([1] : List Int).length) (m := 1) (k := fun ax11 cx11 Bx11 hox11 => ?_)
  have hal11 : (([1] : List Int) ++ ([5] : List Int)).length = ([1] : List Int).length + 1 := by first | rfl | exact List.length_append | simp
  refine Z240 ?_
  refine Z296 ?_
  refine JL_a noMk (a_alloc (l := [_, _, _]) Tryz.zeroValue156) (k := fun r54 hr54 => ?_)
  refine Z172 ?_
  refine JL_a noMk (a_box (l := [_, _, _])) (k := fun r55 hr55 => ?_)
  refine Z164 ?_
  refine JL_dec 12 rfl (fun hq16 => ?_) (fun hq16 => ?_)
  rotate_left
  ·exact absurd hq2 hq16
  refine Z53 ?_
  refine JL_yIng (vs := [(Value.agg [(vi 6), (vt ([114, 111, 116, 97, 116, 101] : Str)), (vi 4)].toArray)]) hl3 (qa (qa q0)) y_call ?_
  refine Z486 ?_
  refine JL_a noMk (a_alloc (l := [_, _, _]) Tryz.zeroValue156) (k := fun r56 hr56 => ?_)
  refine Z239 ?_
  refine JL_a noMk (a_bslice (l := [_]) Tryz.runUnderlying22 Tryz.sizeOf3 Tryz.zeroValue3) (k := fun r57 hr57 => ?_)
  refine JL_append ((([1] : List Int) ++ ([5] : List Int)) ++ ([6] : List Int)) rfl TY_3 Tryz.underlying22 eI_ok hox11 (qb (qb (qb (qb (qb q0))))) (SlJ.lit (xs := ([6] : List Int)) eI_ok) ⟨by first | omega | (simp only [List.length_append, List.length_cons, List.length_nil]; omega) | (simp; omega) | (simp; done), by first | omega | (simp only [List.length_append, List.length_cons, List.length_nil]; omega) | (simp; omega) | (simp; done)⟩ (n := (([1] : List Int) ++ ([5] : List Int)).length) (m := 1) (k := fun ax12 cx12 Bx12 hox12 => ?_)
  have hal12 : ((([1] : List Int) ++ ([5] : List Int)) ++ ([6] : List Int)).length = (([1] : List Int) ++ ([5] : List Int)).length + 1 := by first | rfl | exact List.length_append | simp
  refine Z240 ?_
  refine Z297 ?_
  refine JL_a noMk (a_alloc (l := [_, _, _]) Tryz.zeroValue156) (k := fun r58 hr58 => ?_)
  refine Z172 ?_
  refine JL_a noMk (a_box (l := [_, _, _])) (k := fun r59 hr59 => ?_)
  refine Z164 ?_
  refine JL_dec 12 rfl (fun hq17 => ?_) (fun hq17 => ?_)
  rotate_left
  ·exact absurd hq2 hq17
  refine Z53 ?_
  refine JL_yIng (vs := [(Value.agg [(vi 7), (vt ([97, 99, 108] : Str)), (vi 4)].toArray)]) hl3 (qa (qa q0)) y_call ?_
  refine Z486 ?_
  refine JL_a noMk (a_alloc (l := [_, _, _]) Tryz.zeroValue156) (k := fun r60 hr60 => ?_)
  refine Z239 ?_
  refine JL_a noMk (a_bslice (l := [_]) Tryz.runUnderlying22 Tryz.sizeOf3 Tryz.zeroValue3) (k := fun r61 hr61 => ?_)
  refine JL_append (((([1] : List Int) ++ ([5] : List Int)) ++ ([6] : List Int)) ++ ([7] : List Int)) rfl TY_3 Tryz.underlying22 eI_ok hox12 (qb (qb (qb (qb (qb q0))))) (SlJ.lit (xs := ([7] : List Int)) eI_ok) ⟨by first | omega | (simp only [List.length_append, List.length_cons, List.length_nil]; omega) | (simp; omega) | (simp; done), by first | omega | (simp only [List.length_append, List.length_cons, List.length_nil]; omega) | (simp; omega) | (simp; done)⟩ (n := ((([1] : List Int) ++ ([5] : List Int)) ++ ([6] : List Int)).length) (m := 1) (k := fun ax13 cx13 Bx13 hox13 => ?_)
  have hal13 : (((([1] : List Int) ++ ([5] : List Int)) ++ ([6] : List Int)) ++ ([7] : List Int)).length = ((([1] : List Int) ++ ([5] : List Int)) ++ ([6] : List Int)).length + 1 := by first | rfl | exact List.length_append | simp
  refine Z240 ?_
  refine Z298 ?_
  refine JL_a noMk (a_alloc (l := [_, _, _]) Tryz.zeroValue156) (k := fun r62 hr62 => ?_)
  refine Z172 ?_
  refine JL_a noMk (a_box (l := [_, _, _])) (k := fun r63 hr63 => ?_)
  refine Z164 ?_
  refine JL_dec 12 rfl (fun hq18 => ?_) (fun hq18 => ?_)
  ·exact absurd hq18 hq3
  refine Z227 ?_
  refine Z299 ?_
  refine JL_a noMk (a_alloc (l := [_, _, _]) Tryz.zeroValue156) (k := fun r64 hr64 => ?_)
  refine Z172 ?_
  refine JL_a noMk (a_box (l := [_, _, _])) (k := fun r65 hr65 => ?_)
  refine Z164 ?_
  refine JL_dec 12 rfl (fun hq19 => ?_) (fun hq19 => ?_)
  rotate_left
  ·refine JL_skips 4 rfl ?_
   refine Z98 ?_
   refine Z142 ?_
   refine JL_a noMk (a_alloc (l := [_, _, _]) Tryz.zeroValue156) (k := fun r72 hr72 => ?_)
   refine Z172 ?_
   refine JL_a noMk (a_box (l := [_, _, _])) (k := fun r73 hr73 => ?_)
   refine Z164 ?_
   refine JL_dec 12 rfl (fun hq21 => ?_) (fun hq21 => ?_)
   ·exact absurd hq21 hq19
   refine Z227 ?_
   refine Z250 ?_
   refine Z191 ?_
   refine JX_it0 (.inr rfl) Tryz.results138 (qa (qa (qa (qa (qa (qa q0)))))) ?_
   refine Z17 ?_
   refine Z288 ?_
   refine Z6 ?_
   refine JX_retD [rD3] (qa (qa (qa (qa (qa (qa (qa (qc (qa (qa (qa (qa (qa (qa (qa (qa (qa (qa (qa (qa (qa (qa (qa (qa (qa (qa (qa (qa (qa (qa q0)))))))))))))))))))))))))))))) Tryz.results73 (Res.tmp rfl Res.nil) (fun w1 hw1 => ?_)
   exact ⟨ax13, cx13, Bx13, (by rw [(((hF.pos hq2).neg hq3).neg hq19).eq] <;> first | rfl | (simp only [List.length_set] <;> rfl)), (fresh_segs (L := Bx13) (hw1.perm (qb (qb (qb (qb (qb (qb (qb q0)))))))) rfl.symm), (by rw [(((hF.pos hq2).neg hq3).neg hq19).eq]; exact hox13), (by rw [(((hF.pos hq2).neg hq3).neg hq19).eq]; first | omega | (simp only [List.length_append, List.length_cons, List.length_nil]; omega) | (simp; omega) | (simp; done))⟩
  refine Z53 ?_
  refine JL_yIng (vs := [(Value.agg [(vi 9), (vt ([108, 105, 115, 116] : Str)), (vi 1)].toArray)]) hl3 (qa (qa (qa (qa q0)))) y_call ?_
  refine Z486 ?_
  refine JL_a noMk (a_alloc (l := [_, _, _]) Tryz.zeroValue156) (k := fun r66 hr66 => ?_)
  refine Z239 ?_
  refine JL_a noMk (a_bslice (l := [_]) Tryz.runUnderlying22 Tryz.sizeOf3 Tryz.zeroValue3) (k := fun r67 hr67 => ?_)
  refine JL_append ((((([1] : List Int) ++ ([5] : List Int)) ++ ([6] : List Int)) ++ ([7] : List Int)) ++ ([9] : List Int)) rfl TY_3 Tryz.underlying22 eI_ok hox13 (qb (qb (qb (qb (qb (qb (qb q0))))))) (SlJ.lit (xs := ([9] : List Int)) eI_ok) ⟨by first | omega | (simp only [List.length_append, List.length_cons, List.length_nil]; omega) | (simp; omega) | (simp; done), by first | omega | (simp only [List.length_append, List.length_cons, List.length_nil]; omega) | (simp; omega) | (simp; done)⟩ (n := (((([1] : List Int) ++ ([5] : List Int)) ++ ([6] : List Int)) ++ ([7] : List Int)).length) (m := 1) (k := fun ax14 cx14 Bx14 hox14 => ?_)
  have hal14 : ((((([1] : List Int) ++ ([5] : List Int)) ++ ([6] : List Int)) ++ ([7] : List Int)) ++ ([9] : List Int)).length = (((([1] : List Int) ++ ([5] : List Int)) ++ ([6] : List Int)) ++ ([7] : List Int)).length + 1 := by first | rfl | exact List.length_append | simp
  refine Z240 ?_
  refine Z142 ?_
  refine JL_a noMk (a_alloc (l := [_, _, _]) Tryz.zeroValue156) (k := fun r68 hr68 => ?_)
  refine Z172 ?_
  refine JL_a noMk (a_box (l := [_, _, _])) (k := fun r69 hr69 => ?_)
  refine Z164 ?_
  refine JL_dec 12 rfl (fun hq20 => ?_) (fun hq20 => ?_)
  rotate_left
  ·exact absurd hq19 hq20
  refine Z53 ?_
  refine Z244 ?_
  refine JL_a noMk (a_alloc (l := [_, _, _]) Tryz.zeroValue156) (k := fun r70 hr70 => ?_)
  refine Z239 ?_
  refine JL_a noMk (a_bslice (l := [_]) Tryz.runUnderlying22 Tryz.sizeOf3 Tryz.zeroValue3) (k := fun r71 hr71 => ?_)
  refine JL_append (((((([1] : List Int) ++ ([5] : List Int)) ++ ([6] : List Int)) ++ ([7] : List Int)) ++ ([9] : List Int)) ++ ([10] : List Int)) rfl TY_3 Tryz.underlying22 eI_ok hox14 (qb (qb (qb (qb (qb q0))))) (SlJ.lit (xs := ([10] : List Int)) eI_ok) ⟨by first | omega | (simp only [List.length_append, List.length_cons, List.length_nil]; omega) | (simp; omega) | (simp; done), by first | omega | (simp only [List.length_append, List.length_cons, List.length_nil]; omega) | (simp; omega) | (simp; done)⟩ (n := ((((([1] : List Int) ++ ([5] : List Int)) ++ ([6] : List Int)) ++ ([7] : List Int)) ++ ([9] : List Int)).length) (m := 1) (k := fun ax15 cx15 Bx15 hox15 => ?_)
  have hal15 : (((((([1] : List Int) ++ ([5] : List Int)) ++ ([6] : List Int)) ++ ([7] : List Int)) ++ ([9] : List Int)) ++ ([10] : List Int)).length = ((((([1] : List Int) ++ ([5] : List Int)) ++ ([6] : List Int)) ++ ([7] : List Int)) ++ ([9] : List Int)).length + 1 := by first | rfl | exact List.length_append | simp
  refine Z240 ?_
  refine Z250 ?_
  refine Z459 ?_
  refine Z17 ?_
  refine Z288 ?_
  refine Z6 ?_
  refine JX_retD [rD3] (qa (qc (qa (qa (qa (qa (qa (qa (qa (qa (qa (qa (qa (qa (qa (qa (qa (qa (qa (qa (qa (qa (qa (qa (qa (qa (qa (qa (qa (qa (qa (qa (qa (qa q0)))))))))))))))))))))))))))))))))) Tryz.results73 (Res.tmp rfl Res.nil) (fun w1 hw1 => ?_)
  exact ⟨ax15, cx15, Bx15, (by rw [(((hF.pos hq2).neg hq3).pos hq19).eq] <;> first | rfl | (simp only [List.length_set] <;> rfl)), (fresh_segs (L := Bx15) (hw1.perm (qb q0)) rfl.symm), (by rw [(((hF.pos hq2).neg hq3).pos hq19).eq]; exact hox15), (by rw [(((hF.pos hq2).neg hq3).pos hq19).eq]; first | omega | (simp only [List.length_append, List.length_cons, List.length_nil]; omega) | (simp; omega) | (simp; done))⟩
 refine Z53 ?_
 refine JL_yIng (vs := [(Value.agg [(vi 2), (vt ([115, 117, 115, 112, 101, 110, 100] : Str)), (vi 2)].toArray)]) hl3 (qa (qa q0)) y_call ?_
 refine Z486 ?_
 refine JL_a noMk (a_alloc (l := [_, _, _]) Tryz.zeroValue156) (k := fun r10 hr10 => ?_)
 refine Z239 ?_
 refine JL_a noMk (a_bslice (l := [_]) Tryz.runUnderlying22 Tryz.sizeOf3 Tryz.zeroValue3) (k := fun r11 hr11 => ?_)
 refine JL_append (([1] : List Int) ++ ([2] : List Int)) rfl TY_3 Tryz.underlying22 eI_ok hox1 (qb (qb (qb (qb (qb q0))))) (SlJ.lit (xs := ([2] : List Int)) eI_ok) ⟨by first | omega | (simp only [List.length_append, List.length_cons, List.length_nil]; omega) | (simp; omega) | (simp; done), by first | omega | (simp only [List.length_append, List.length_cons, List.length_nil]; omega) | (simp; omega) | (simp; done)⟩ (n := ([1] : List Int).length) (m := 1) (k := fun ax2 cx2 Bx2 hox2 => ?_)
 have hal2 : (([1] : List Int) ++ ([2] : List Int)).length = ([1] : List Int).length + 1 := by first | rfl | exact List.length_append | simp
 refine Z240 ?_
 refine Z293 ?_
 refine JL_a noMk (a_alloc (l := [_, _, _]) Tryz.zeroValue156) (k := fun r12 hr12 => ?_)
 refine Z172 ?_
 refine JL_a noMk (a_box (l := [_, _, _])) (k := fun r13 hr13 => ?_)
 refine Z164 ?_
 refine JL_dec 12 rfl (fun hq4 => ?_) (fun hq4 => ?_)
 rotate_left
 ·exact absurd hq3 hq4
 refine Z53 ?_
 refine JL_yIng (vs := [(Value.agg [(vi 3), (vt ([114, 101, 115, 117, 109, 101] : Str)), (vi 2)].toArray)]) hl3 (qa (qa q0)) y_call ?_
 refine Z486 ?_
 refine JL_a noMk (a_alloc (l := [_, _, _]) Tryz.zeroValue156) (k := fun r14 hr14 => ?_)
 refine Z239 ?_
 refine JL_a noMk (a_bslice (l := [_]) Tryz.runUnderlying22 Tryz.sizeOf3 Tryz.zeroValue3) (k := fun r15 hr15 => ?_)
 refine JL_append ((([1] : List Int) ++ ([2] : List Int)) ++ ([3] : List Int)) rfl TY_3 Tryz.underlying22 eI_ok hox2 (qb (qb (qb (qb (qb q0))))) (SlJ.lit (xs := ([3] : List Int)) eI_ok) ⟨by first | omega | (simp only [List.length_append, List.length_cons, List.length_nil]; omega) | (simp; omega) | (simp; done), by first | omega | (simp only [List.length_append, List.length_cons, List.length_nil]; omega) | (simp; omega) | (simp; done)⟩ (n := (([1] : List Int) ++ ([2] : List Int)).length) (m := 1) (k := fun ax3 cx3 Bx3 hox3 => ?_)
 have hal3 : ((([1] : List Int) ++ ([2] : List Int)) ++ ([3] : List Int)).length = (([1] : List Int) ++ ([2] : List Int)).length + 1 := by first | rfl | exact List.length_append | simp
 refine Z240 ?_
 refine Z294 ?_
 refine JL_a noMk (a_alloc (l := [_, _, _]) Tryz.zeroValue156) (k := fun r16 hr16 => ?_)
 refine Z172 ?_
 refine JL_a noMk (a_box (l := [_, _, _])) (k := fun r17 hr17 => ?_)
 refine Z164 ?_
 refine JL_dec 12 rfl (fun hq5 => ?_) (fun hq5 => ?_)
 rotate_left
 ·exact absurd hq3 hq5
 refine Z53 ?_
 refine JL_yIng (vs := [(Value.agg [(vi 4), (vt ([100, 114, 97, 105, 110] : Str)), (vi 2)].toArray)]) hl3 (qa (qa q0)) y_call ?_
 refine Z486 ?_
 refine JL_a noMk (a_alloc (l := [_, _, _]) Tryz.zeroValue156) (k := fun r18 hr18 => ?_)
 refine Z239 ?_
 refine JL_a noMk (a_bslice (l := [_]) Tryz.runUnderlying22 Tryz.sizeOf3 Tryz.zeroValue3) (k := fun r19 hr19 => ?_)
 refine JL_append (((([1] : List Int) ++ ([2] : List Int)) ++ ([3] : List Int)) ++ ([4] : List Int)) rfl TY_3 Tryz.underlying22 eI_ok hox3 (qb (qb (qb (qb (qb q0))))) (SlJ.lit (xs := ([4] : List Int)) eI_ok) ⟨by first | omega | (simp only [List.length_append, List.length_cons, List.length_nil]; omega) | (simp; omega) | (simp; done), by first | omega | (simp only [List.length_append, List.length_cons, List.length_nil]; omega) | (simp; omega) | (simp; done)⟩ (n := ((([1] : List Int) ++ ([2] : List Int)) ++ ([3] : List Int)).length) (m := 1) (k := fun ax4 cx4 Bx4 hox4 => ?_)
 have hal4 : (((([1] : List Int) ++ ([2] : List Int)) ++ ([3] : List Int)) ++ ([4] : List Int)).length = ((([1] : List Int) ++ ([2] : List Int)) ++ ([3] : List Int)).length + 1 := by first | rfl | exact List.length_append | simp
 refine Z240 ?_
 refine Z295 ?_
 refine JL_a noMk (a_alloc (l := [_, _, _]) Tryz.zeroValue156) (k := fun r20 hr20 => ?_)
 refine Z172 ?_
 refine JL_a noMk (a_box (l := [_, _, _])) (k := fun r21 hr21 => ?_)
 refine Z164 ?_
 refine JL_dec 12 rfl (fun hq6 => ?_) (fun hq6 => ?_)
 rotate_left
 ·exact absurd hq2 hq6
 refine Z53 ?_
 refine JL_yIng (vs := [(Value.agg [(vi 5), (vt ([100, 101, 108, 101, 116, 101] : Str)), (vi 4)].toArray)]) hl3 (qa (qa q0)) y_call ?_
 refine Z486 ?_
 refine JL_a noMk (a_alloc (l := [_, _, _]) Tryz.zeroValue156) (k := fun r22 hr22 => ?_)
 refine Z239 ?_
 refine JL_a noMk (a_bslice (l := [_]) Tryz.runUnderlying22 Tryz.sizeOf3 Tryz.zeroValue3) (k := fun r23 hr23 => ?_)
 refine JL_append ((((([1] : List Int) ++ ([2] : List Int)) ++ ([3] : List Int)) ++ ([4] : List Int)) ++ ([5] : List Int)) rfl TY_3 Tryz.underlying22 eI_ok hox4 (qb (qb (qb (qb (qb q0))))) (SlJ.lit (xs := ([5] : List Int)) eI_ok) ⟨by first | omega | (simp only [List.length_append, List.length_cons, List.length_nil]; omega) | (simp; omega) | (simp; done), by first | omega | (simp only [List.length_append, List.length_cons, List.length_nil]; omega) | (simp; omega) | (simp; done)⟩ (n := (((([1] : List Int) ++ ([2] : List Int)) ++ ([3] : List Int)) ++ ([4] : List Int)).length) (m := 1) (k := fun ax5 cx5 Bx5 hox5 => ?_)
 have hal5 : ((((([1] : List Int) ++ ([2] : List Int)) ++ ([3] : List Int)) ++ ([4] : List Int)) ++ ([5] : List Int)).length = (((([1] : List Int) ++ ([2] : List Int)) ++ ([3] : List Int)) ++ ([4] : List Int)).length + 1 := by first | rfl | exact List.length_append | simp
 refine Z240 ?_
 refine Z296 ?_
 refine JL_a noMk (a_alloc (l := [_, _, _]) Tryz.zeroValue156) (k := fun r24 hr24 => ?_)
 refine Z172 ?_
 refine JL_a noMk (a_box (l := [_, _, _])) (k := fun r25 hr25 => ?_)
 refine Z164 ?_
 refine JL_dec 12 rfl (fun hq7 => ?_) (fun hq7 => ?_)
 rotate_left
 ·exact absurd hq2 hq7
 refine Z53 ?_
 refine JL_yIng (vs := [(Value.agg [(vi 6), (vt ([114, 111, 116, 97, 116, 101] : Str)), (vi 4)].toArray)]) hl3 (qa (qa q0)) y_call ?_
 refine Z486 ?_
 refine JL_a noMk (a_alloc (l := [_, _, _]) Tryz.zeroValue156) (k := fun r26 hr26 => ?_)
 refine Z239 ?_
 refine JL_a noMk (a_bslice (l := [_]) Tryz.runUnderlying22 Tryz.sizeOf3 Tryz.zeroValue3) (k := fun r27 hr27 => ?_)
 refine JL_append (((((([1] : List Int) ++ ([2] : List Int)) ++ ([3] : List Int)) ++ ([4] : List Int)) ++ ([5] : List Int)) ++ ([6] : List Int)) rfl TY_3 Tryz.underlying22 eI_ok hox5 (qb (qb (qb (qb (qb q0))))) (SlJ.lit (xs := ([6] : List Int)) eI_ok) ⟨by first | omega | (simp only [List.length_append, List.length_cons, List.length_nil]; omega) | (simp; omega) | (simp; done), by first | omega | (simp only [List.length_append, List.length_cons, List.length_nil]; omega) | (simp; omega) | (simp; done)⟩ (n := ((((([1] : List Int) ++ ([2] : List Int)) ++ ([3] : List Int)) ++ ([4] : List Int)) ++ ([5] : List Int)).length) (m := 1) (k := fun ax6 cx6 Bx6 hox6 => ?_)
 have hal6 : (((((([1] : List Int) ++ ([2] : List Int)) ++ ([3] : List Int)) ++ ([4] : List Int)) ++ ([5] : List Int)) ++ ([6] : List Int)).length = ((((([1] : List Int) ++ ([2] : List Int)) ++ ([3] : List Int)) ++ ([4] : List Int)) ++ ([5] : List Int)).length + 1 := by first | rfl | exact List.length_append | simp
 refine Z240 ?_
 refine Z297 ?_
 refine JL_a noMk (a_alloc (l := [_, _, _]) Tryz.zeroValue156) (k := fun r28 hr28 => ?_)
 refine Z172 ?_
 refine JL_a noMk (a_box (l := [_, _, _])) (k := fun r29 hr29 => ?_)
 refine Z164 ?_
 refine JL_dec 12 rfl (fun hq8 => ?_) (fun hq8 => ?_)
 rotate_left
 ·exact absurd hq2 hq8
 refine Z53 ?_
 refine JL_yIng (vs := [(Value.agg [(vi 7), (vt ([97, 99, 108] : Str)), (vi 4)].toArray)]) hl3 (qa (qa q0)) y_call ?_
 refine Z486 ?_
 refine JL_a noMk (a_alloc (l := [_, _, _]) Tryz.zeroValue156) (k := fun r30 hr30 => ?_)
 refine Z239 ?_
 refine JL_a noMk (a_bslice (l := [_]) Tryz.runUnderlying22 Tryz.sizeOf3 Tryz.zeroValue3) (k := fun r31 hr31 => ?_)
 refine JL_append ((((((([1] : List Int) ++ ([2] : List Int)) ++ ([3] : List Int)) ++ ([4] : List Int)) ++ ([5] : List Int)) ++ ([6] : List Int)) ++ ([7] : List Int)) rfl TY_3 Tryz.underlying22 eI_ok hox6 (qb (qb (qb (qb (qb q0))))) (SlJ.lit (xs := ([7] : List Int)) eI_ok) ⟨by first | omega | (simp only [List.length_append, List.length_cons, List.length_nil]; omega) | (simp; omega) | (simp; done), by first | omega | (simp only [List.length_append, List.length_cons, List.length_nil]; omega) | (simp; omega) | (simp; done)⟩ (n := (((((([1] : List Int) ++ ([2] : List Int)) ++ ([3] : List Int)) ++ ([4] : List Int)) ++ ([5] : List Int)) ++ ([6] : List Int)).length) (m := 1) (k := fun ax7 cx7 Bx7 hox7 => ?_)
 have hal7 : ((((((([1] : List Int) ++ ([2] : List Int)) ++ ([3] : List Int)) ++ ([4] : List Int)) ++ ([5] : List Int)) ++ ([6] : List Int)) ++ ([7] : List Int)).length = (((((([1] : List Int) ++ ([2] : List Int)) ++ ([3] : List Int)) ++ ([4] : List Int)) ++ ([5] : List Int)) ++ ([6] : List Int)).length + 1 := by first | rfl | exact List.length_append | simp
 refine Z240 ?_
 refine Z298 ?_
 refine JL_a noMk (a_alloc (l := [_, _, _]) Tryz.zeroValue156) (k := fun r32 hr32 => ?_)
 refine Z172 ?_
 refine JL_a noMk (a_box (l := [_, _, _])) (k := fun r33 hr33 => ?_)
 refine Z164 ?_
 refine JL_dec 12 rfl (fun hq9 => ?_) (fun hq9 => ?_)
 rotate_left
 ·exact absurd hq3 hq9
 refine Z53 ?_
 refine JL_yIng (vs := [(Value.agg [(vi 8), (vt ([107, 105, 108, 108] : Str)), (vi 2)].toArray)]) hl3 (qa (qa q0)) y_call ?_
 refine Z486 ?_
 refine JL_a noMk (a_alloc (l := [_, _, _]) Tryz.zeroValue156) (k := fun r34 hr34 => ?_)
 refine Z239 ?_
 refine JL_a noMk (a_bslice (l := [_]) Tryz.runUnderlying22 Tryz.sizeOf3 Tryz.zeroValue3) (k := fun r35 hr35 => ?_)
 refine JL_append (((((((([1] : List Int) ++ ([2] : List Int)) ++ ([3] : List Int)) ++ ([4] : List Int)) ++ ([5] : List Int)) ++ ([6] : List Int)) ++ ([7] : List Int)) ++ ([8] : List Int)) rfl TY_3 Tryz.underlying22 eI_ok hox7 (qb (qb (qb (qb (qb q0))))) (SlJ.lit (xs := ([8] : List Int)) eI_ok) ⟨by first | omega | (simp only [List.length_append, List.length_cons, List.length_nil]; omega) | (simp; omega) | (simp; done), by first | omega | (simp only [List.length_append, List.length_cons, List.length_nil]; omega) | (simp; omega) | (simp; done)⟩ (n := ((((((([1] : List Int) ++ ([2] : List Int)) ++ ([3] : List Int)) ++ ([4] : List Int)) ++ ([5] : List Int)) ++ ([6] : List Int)) ++ ([7] : List Int)).length) (m := 1) (k := fun ax8 cx8 Bx8 hox8 => ?_)
 have hal8 : (((((((([1] : List Int) ++ ([2] : List Int)) ++ ([3] : List Int)) ++ ([4] : List Int)) ++ ([5] : List Int)) ++ ([6] : List Int)) ++ ([7] : List Int)) ++ ([8] : List Int)).length = ((((((([1] : List Int) ++ ([2] : List Int)) ++ ([3] : List Int)) ++ ([4] : List Int)) ++ ([5] : List Int)) ++ ([6] : List Int)) ++ ([7] : List Int)).length + 1 := by first | rfl | exact List.length_append | simp
 refine Z240 ?_
 refine Z299 ?_
 refine JL_a noMk (a_alloc (l := [_, _, _]) Tryz.zeroValue156) (k := fun r36 hr36 => ?_)
 refine Z172 ?_
 refine JL_a noMk (a_box (l := [_, _, _])) (k := fun r37 hr37 => ?_)
 refine Z164 ?_
 refine JL_dec 12 rfl (fun hq10 => ?_) (fun hq10 => ?_)
 rotate_left
 ·refine JL_skips 4 rfl ?_
  refine Z98 ?_
  refine Z142 ?_
  refine JL_a noMk (a_alloc (l := [_, _, _]) Tryz.zeroValue156) (k := fun r44 hr44 => ?_)
  refine Z172 ?_
  refine JL_a noMk (a_box (l := [_, _, _])) (k := fun r45 hr45 => ?_)
  refine Z164 ?_
  refine JL_dec 12 rfl (fun hq12 => ?_) (fun hq12 => ?_)
  ·exact absurd hq12 hq10
  refine Z227 ?_
  refine Z250 ?_
  refine Z191 ?_
  refine JX_it0 (.inr rfl) Tryz.results138 (qa (qa (qa (qa q0)))) ?_
  refine Z17 ?_
  refine Z288 ?_
  refine Z6 ?_
  refine JX_retD [rD3] (qa (qa (qa (qa (qa (qc (qa (qa (qa (qa (qa (qa (qa (qa (qa (qa (qa (qa (qa (qa (qa (qa (qa (qa (qa (qa (qa (qa (qa (qa (qa (qa (qa (qa (qa (qa (qa (qa q0)))))))))))))))))))))))))))))))))))))) Tryz.results73 (Res.tmp rfl Res.nil) (fun w1 hw1 => ?_)
  exact ⟨ax8, cx8, Bx8, (by rw [(((hF.pos hq2).pos hq3).neg hq10).eq] <;> first | rfl | (simp only [List.length_set] <;> rfl)), (fresh_segs (L := Bx8) (hw1.perm (qb (qb (qb (qb (qb q0)))))) rfl.symm), (by rw [(((hF.pos hq2).pos hq3).neg hq10).eq]; exact hox8), (by rw [(((hF.pos hq2).pos hq3).neg hq10).eq]; first | omega | (simp only [List.length_append, List.length_cons, List.length_nil]; omega) | (simp; omega) | (simp; done))⟩
 refine Z53 ?_
 refine JL_yIng (vs := [(Value.agg [(vi 9), (vt ([108, 105, 115, 116] : Str)), (vi 1)].toArray)]) hl3 (qa (qa q0)) y_call ?_
 refine Z486 ?_
 refine JL_a noMk (a_alloc (l := [_, _, _]) Tryz.zeroValue156) (k := fun r38 hr38 => ?_)
 refine Z239 ?_
 refine JL_a noMk (a_bslice (l := [_]) Tryz.runUnderlying22 Tryz.sizeOf3 Tryz.zeroValue3) (k := fun r39 hr39 => ?_)
 refine JL_append ((((((((([1] : List Int) ++ ([2] : List Int)) ++ ([3] : List Int)) ++ ([4] : List Int)) ++ ([5] : List Int)) ++ ([6] : List Int)) ++ ([7] : List Int)) ++ ([8] : List Int)) ++ ([9] : List Int)) rfl TY_3 Tryz.underlying22 eI_ok hox8 (qb (qb (qb (qb (qb q0))))) (SlJ.lit (xs := ([9] : List Int)) eI_ok) ⟨by first | omega | (simp only [List.length_append, List.length_cons, List.length_nil]; omega) | (simp; omega) | (simp; done), by first | omega | (simp only [List.length_append, List.length_cons, List.length_nil]; omega) | (simp; omega) | (simp; done)⟩ (n := (((((((([1] : List Int) ++ ([2] : List Int)) ++ ([3] : List Int)) ++ ([4] : List Int)) ++ ([5] : List Int)) ++ ([6] : List Int)) ++ ([7] : List Int)) ++ ([8] : List Int)).length) (m := 1) (k := fun ax9 cx9 Bx9 hox9 => ?_)
 have hal9 : ((((((((([1] : List Int) ++ ([2] : List Int)) ++ ([3] : List Int)) ++ ([4] : List Int)) ++ ([5] : List Int)) ++ ([6] : List Int)) ++ ([7] : List Int)) ++ ([8] : List Int)) ++ ([9] : List Int)).length = (((((((([1] : List Int) ++ ([2] : List Int)) ++ ([3] : List Int)) ++ ([4] : List Int)) ++ ([5] : List Int)) ++ ([6] : List Int)) ++ ([7] : List Int)) ++ ([8] : List Int)).length + 1 := by first | rfl | exact List.length_append | simp
 refine Z240 ?_
 refine Z142 ?_
 refine JL_a noMk (a_alloc (l := [_, _, _]) Tryz.zeroValue156) (k := fun r40 hr40 => ?_)
 refine Z172 ?_
 refine JL_a noMk (a_box (l := [_, _, _])) (k := fun r41 hr41 => ?_)
 refine Z164 ?_
 refine JL_dec 12 rfl (fun hq11 => ?_) (fun hq11 => ?_)
 rotate_left
 ·exact absurd hq10 hq11
 refine Z53 ?_
 refine Z244 ?_
 refine JL_a noMk (a_alloc (l := [_, _, _]) Tryz.zeroValue156) (k := fun r42 hr42 => ?_)
 refine Z239 ?_
 refine JL_a noMk (a_bslice (l := [_]) Tryz.runUnderlying22 Tryz.sizeOf3 Tryz.zeroValue3) (k := fun r43 hr43 => ?_)
 refine JL_append (((((((((([1] : List Int) ++ ([2] : List Int)) ++ ([3] : List Int)) ++ ([4] : List Int)) ++ ([5] : List Int)) ++ ([6] : List Int)) ++ ([7] : List Int)) ++ ([8] : List Int)) ++ ([9] : List Int)) ++ ([10] : List Int)) rfl TY_3 Tryz.underlying22 eI_ok hox9 (qb (qb (qb (qb (qb q0))))) (SlJ.lit (xs := ([10] : List Int)) eI_ok) ⟨by first | omega | (simp only [List.length_append, List.length_cons, List.length_nil]; omega) | (simp; omega) | (simp; done), by first | omega | (simp only [List.length_append, List.length_cons, List.length_nil]; omega) | (simp; omega) | (simp; done)⟩ (n := ((((((((([1] : List Int) ++ ([2] : List Int)) ++ ([3] : List Int)) ++ ([4] : List Int)) ++ ([5] : List Int)) ++ ([6] : List Int)) ++ ([7] : List Int)) ++ ([8] : List Int)) ++ ([9] : List Int)).length) (m := 1) (k := fun ax10 cx10 Bx10 hox10 => ?_)
 have hal10 : (((((((((([1] : List Int) ++ ([2] : List Int)) ++ ([3] : List Int)) ++ ([4] : List Int)) ++ ([5] : List Int)) ++ ([6] : List Int)) ++ ([7] : List Int)) ++ ([8] : List Int)) ++ ([9] : List Int)) ++ ([10] : List Int)).length = ((((((((([1] : List Int) ++ ([2] : List Int)) ++ ([3] : List Int)) ++ ([4] : List Int)) ++ ([5] : List Int)) ++ ([6] : List Int)) ++ ([7] : List Int)) ++ ([8] : List Int)) ++ ([9] : List Int)).length + 1 := by first | rfl | exact List.length_append | simp
 refine Z240 ?_
 refine Z250 ?_
 refine Z459 ?_
 refine Z17 ?_
 refine Z288 ?_
 refine Z6 ?_
 refine JX_retD [rD3] (qa (qc (qa (qa (qa (qa (qa (qa (qa (qa (qa (qa (qa (qa (qa (qa (qa (qa (qa (qa (qa (qa (qa (qa (qa (qa (qa (qa (qa (qa (qa (qa (qa (qa (qa (qa (qa (qa (qa (qa (qa (qa q0)))))))))))))))))))))))))))))))))))))))))) Tryz.results73 (Res.tmp rfl Res.nil) (fun w1 hw1 => ?_)
 exact ⟨ax10, cx10, Bx10, (by rw [(((hF.pos hq2).pos hq3).pos hq10).eq] <;> first | rfl | (simp only [List.length_set] <;> rfl)), (fresh_segs (L := Bx10) (hw1.perm (qb q0)) rfl.symm), (by rw [(((hF.pos hq2).pos hq3).pos hq10).eq]; exact hox10), (by rw [(((hF.pos hq2).pos hq3).pos hq10).eq]; first | omega | (simp only [List.length_append, List.length_cons, List.length_nil]; omega) | (simp; omega) | (simp; done))⟩

theorem roMay_ok (w : World) {ea0 : Addr} {ea1 : Addr} {ea2 : Addr} {ea3 : Addr} {n_ : Int} {v : Int} (hG : Gl w) (hE : Er w ea0 ea1 ea2 ea3) : Val Tryz.prog 40 [(vi n_), (vi v)] w (Value.bool (roMay n_ v)) := by
 have hF := Is.refl (roMay n_ v)
 refine enter Tryz.func40 Tryz.ntmps40 (h := ?_)
 refine Z216 ?_
 refine JL_p (c_callA Tryz.call73) (fun w1 hw1 => roVerbs_ok w1 (n_ := n_) (hG := hG.ext hw1.ext_out) (hE := hE.ext hw1.ext_out)) (k := ?_)
 rintro w1_1 e1_1 w2_1 hw1_1 ⟨a1_1, c1_1, B1_1, he_1, hf_1, ho1_1, hl1_1⟩
 refine ⟨_, _, he_1, hw1_1.fresh hf_1, ?_⟩
 refine Z323 ?_
 refine J_loop2 (σ1 := Nat) (σ2 := Nat) (fun n_2 x_1 => (B1_1 ++ [])) (fun n_2 x_1 => [(1, (vi v)), (4, (Value.bool false)), (8, (vs a1_1 ((roVerbs n_).length) c1_1)), (9, (vi ((((roVerbs n_).length) : Nat) : Int))), (10, (vi ((x_1 : Nat) : Int)))]) (fun n_2 x_1 => ((roVerbs n_).length) - x_1 < n_2 ∧ Is (roMay_l0 n_ v (((roVerbs n_).length) + 1) 0) (roMay_l0 n_ v n_2 x_1)) (fun n_2 x_1 => n_2) (((roVerbs n_).length) + 1) 0 ?_ se (List.Perm.refl _) ?_
 ·exact ⟨Nat.lt_succ_self _, Is.refl _⟩
 ·rintro (_ | n_2) x_1 ⟨hm4, hF3⟩
  ·omega
  refine Z38 ?_
  refine J_dec rfl (fun hq1 => ?_) (fun hq1 => ?_)
  rotate_left
  ·refine J_exit ?_
   refine Z272 ?_
   refine JX_ret Tryz.results40 (Res.tmp rfl Res.nil) (fun w1 hw1 => ?_)
   exact ⟨(by rw [(hF.ok1 (hF3.neg hq1)).eq] <;> first | rfl | (simp only [List.length_set] <;> rfl)), hw1.ext_out⟩
  refine Z14 ?_
  refine Z61 ?_
  refine JL_q (q_idx (n := (roVerbs n_).length) Tryz.runUnderlying22 Tryz.sizeOf3 x_1 (ho1_1.slj eI_ok) (gD (by first | exact ix)) (by first | rfl | simp)) (k := ?_)
  refine JL_q (q_loadE Tryz.isAgg3 x_1 0 (ho1_1.slj eI_ok) (gD (by first | exact ix))) (k := ?_)
  refine Z276 ?_
  refine Z281 ?_
  refine J_dec rfl (fun hq2 => ?_) (fun hq2 => ?_)
  rotate_left
  ·refine J_skip ?_
   refine Z40 ?_
   exact JX_inv2 n_2 (x_1 + 1) ⟨by omega, ((hF3.pos hq1).neg hq2)⟩ (Nat.lt_succ_self _) se (List.Perm.refl _)
  refine Z2 ?_
  refine Z105 ?_
  refine JX_ret Tryz.results40 (Res.tmp rfl Res.nil) (fun w1 hw1 => ?_)
  exact ⟨(by rw [(hF.er1 ((hF3.pos hq1).pos hq2)).eq] <;> first | rfl | (simp only [List.length_set] <;> rfl)), hw1.ext_out⟩

end Go.Proofs.YtopjaeoklkpcpaaGreatDoor.Jd

namespace Go.Proofs.YtopjaeoklkpcpaaGreatDoor.Jd
open Go.Proofs
open Go.RowKit (Below)
set_option maxRecDepth 100000
set_option maxHeartbeats 8000000
set_option linter.unusedVariables false
set_option linter.unusedSimpArgs false
theorem FO_30_0 : FieldOff Tryz.prog 30 0 0 := fun r k w => by simp [Instr.fieldAt, Instr.sureAddr, fieldPlace, addr_add]
theorem FO_30_1 : FieldOff Tryz.prog 30 1 1 := fun r k w => by simp [Instr.fieldAt, Instr.sureAddr, fieldPlace, addr_add]
theorem FO_32_0 : FieldOff Tryz.prog 32 0 0 := fun r k w => by simp [Instr.fieldAt, Instr.sureAddr, fieldPlace, addr_add]
theorem FO_32_1 : FieldOff Tryz.prog 32 1 1 := fun r k w => by simp [Instr.fieldAt, Instr.sureAddr, fieldPlace, addr_add]
theorem FO_223_0 : FieldOff Tryz.prog 223 0 0 := fun r k w => by simp [Instr.fieldAt, Instr.sureAddr, fieldPlace, addr_add]
theorem FO_228_0 : FieldOff Tryz.prog 228 0 0 := fun r k w => by simp [Instr.fieldAt, Instr.sureAddr, fieldPlace, addr_add]
theorem PL_223 : Places Tryz.prog 223 [(0, 2)] := ⟨_, fun w => Tryz.runUnderlying223 w, fun w => by simp⟩
theorem PL_228 : Places Tryz.prog 228 [(0, 2)] := ⟨_, fun w => Tryz.runUnderlying228 w, fun w => by simp⟩
theorem wIsPlain_ok (w : World) {s : Str} : Val Tryz.prog 152 [(vt s)] w (Value.bool (wIsPlain s)) := by
 have hF := Is.refl (wIsPlain s)
 refine enter Tryz.func152 Tryz.ntmps152 (h := ?_)
 refine Z216 ?_
 refine JL_a noMk (a_rangeT Tryz.runUnderlying9) (k := fun r1 hr1 => ?_)
 refine Z305 ?_
 refine J_loop2 (σ1 := Nat) (σ2 := Nat) (fun n_2 x_1 => ((r1, Obj.stringIter (bs s) x_1) :: [])) (fun n_2 x_1 => [(2, (Value.bool false)), (6, (Value.pointer (some ⟨r1, 0, none⟩)))]) (fun n_2 x_1 => s.length - x_1 < n_2 ∧ Is (wIsPlain_l0 s (s.length + 1) 0) (wIsPlain_l0 s n_2 x_1)) (fun n_2 x_1 => n_2) (s.length + 1) 0 ?_ se (List.Perm.refl _) ?_
 ·exact ⟨Nat.lt_succ_self _, Is.refl _⟩
 ·rintro (_ | n_2) x_1 ⟨hm4, hF3⟩
  ·omega
  refine Z2 ?_
  refine JL_next q0 (fun hq1 => ?_) (fun hq1 => ?_)
  rotate_left
  ·refine JL_q q_ext (k := ?_)
   refine Z72 ?_
   refine Z134 ?_
   refine Z272 ?_
   refine JX_ret Tryz.results152 (Res.tmp rfl Res.nil) (fun w1 hw1 => ?_)
   exact ⟨(by rw [(hF.ok1 (hF3.neg hq1)).eq] <;> first | rfl | (simp only [List.length_set] <;> rfl)), hw1.ext_out⟩
  have hrhq1 := dec_bd s x_1
  have hphq1 := dec_pos s x_1
  refine Z498 ?_
  refine Z72 ?_
  refine Z42 ?_
  refine J_block ?_
  refine Z2 ?_
  refine Z498 ?_
  refine Z107 ?_
  refine Z209 ?_
  refine JL_dec 12 rfl (fun hq2 => ?_) (fun hq2 => ?_)
  ·refine JL_skips 2 rfl ?_
   refine Z114 ?_
   refine Z178 ?_
   refine JX_block_ret ?_
   refine JX_inv_ret ?_
   refine Z8 ?_
   refine JX_ret Tryz.results152 (Res.tmp rfl Res.nil) (fun w1 hw1 => ?_)
   exact ⟨(by rw [(hF.er1 ((hF3.pos hq1).pos hq2)).eq] <;> first | rfl | (simp only [List.length_set] <;> rfl)), hw1.ext_out⟩
  refine Z409 ?_
  refine Z247 ?_
  refine J_dec rfl (fun hq3 => ?_) (fun hq3 => ?_)
  rotate_left
  ·refine J_skip ?_
   refine JX_block ?_
   exact JX_inv2 n_2 (x_1 + (dec s x_1).2) ⟨by omega, (((hF3.pos hq1).neg hq2).neg hq3)⟩ (Nat.lt_succ_self _) se (List.Perm.refl _)
  refine Z178 ?_
  refine JX_block_ret ?_
  refine JX_inv_ret ?_
  refine Z8 ?_
  refine JX_ret Tryz.results152 (Res.tmp rfl Res.nil) (fun w1 hw1 => ?_)
  exact ⟨(by rw [(hF.er1 (((hF3.pos hq1).neg hq2).pos hq3)).eq] <;> first | rfl | (simp only [List.length_set] <;> rfl)), hw1.ext_out⟩

theorem wRight_ok (w : World) {s : Str} : Val Tryz.prog 130 [(vt s)] w (Value.bool (wRight s)) := by
 have hF := Is.refl (wRight s)
 refine enter Tryz.func130 Tryz.ntmps130 (h := ?_)
 refine Z2 ?_
 refine Z107 ?_
 refine JL_q (q_lenT Tryz.runUnderlying9) (k := ?_)
 refine JL_q q_leq (k := ?_)
 refine Z481 ?_
 refine JL_dec 6 rfl (fun hq1 => ?_) (fun hq1 => ?_)
 rotate_left
 ·refine JL_skips 2 rfl ?_
  refine Z26 ?_
  refine JX_ret Tryz.results130 (Res.tmp rfl Res.nil) (fun w1 hw1 => ?_)
  exact ⟨(by rw [(hF.neg hq1).eq] <;> first | rfl | (simp only [List.length_set] <;> rfl)), hw1.ext_out⟩
 refine Z489 ?_
 refine JL_vg (c_callA Tryz.call152) (fun w1 hw1 => wIsPlain_ok w1 (s := s)) (k := ?_)
 refine Z79 ?_
 refine JX_ret Tryz.results130 (Res.tmp rfl Res.nil) (fun w1 hw1 => ?_)
 exact ⟨(by rw [(hF.pos hq1).eq] <;> first | rfl | (simp only [List.length_set] <;> rfl)), hw1.ext_out⟩

theorem isAddr_ok (w : World) {a : Int} : Val Tryz.prog 174 [(vi a)] w (Value.bool (isAddr a)) := by
 have hF := Is.refl (isAddr a)
 refine enter Tryz.func174 Tryz.ntmps174 (h := ?_)
 refine Z2 ?_
 refine Z107 ?_
 refine Z328 ?_
 refine JL_dec 5 rfl (fun hq1 => ?_) (fun hq1 => ?_)
 rotate_left
 ·refine JL_skips 2 rfl ?_
  refine Z26 ?_
  refine JX_ret Tryz.results174 (Res.tmp rfl Res.nil) (fun w1 hw1 => ?_)
  exact ⟨(by rw [(hF.neg hq1).eq] <;> first | rfl | (simp only [List.length_set] <;> rfl)), hw1.ext_out⟩
 refine Z489 ?_
 refine JL_qg q_leq (k := ?_)
 refine Z79 ?_
 refine JX_ret Tryz.results174 (Res.tmp rfl Res.nil) (fun w1 hw1 => ?_)
 exact ⟨(by rw [(hF.pos hq1).eq] <;> first | rfl | (simp only [List.length_set] <;> rfl)), hw1.ext_out⟩

theorem aRest_ok (w : World) {p : Prefix} (hb : 0 ≤ p.bits ∧ p.bits ≤ 32) : Val Tryz.prog 175 [(Value.agg [(vi p.addr), (vi p.bits)].toArray)] w (vi (aRest p)) := by
 have hF := Is.refl (aRest p)
 refine enter Tryz.func175 Tryz.ntmps175 (h := ?_)
 refine Z2 ?_
 refine JL_a noMk (a_box (l := [_, _])) (k := fun r1 hr1 => ?_)
 refine Z91 ?_
 refine JL_q (q_fld FO_223_0) (k := ?_)
 refine JL_q (q_fld FO_30_1) (k := ?_)
 refine Z423 ?_
 refine JL_q q_shlW (k := ?_)
 refine JL_q (q_sub (h := by (have := rSize_bd (bits := p.bits) (by omega); simp only [rSize] at this; omega))) (k := ?_)
 refine Z6 ?_
 refine JX_ret Tryz.results175 (Res.tmp rfl Res.nil) (fun w1 hw1 => ?_)
 exact ⟨(by rw [hF.eq] <;> first | rfl | (simp only [List.length_set] <;> rfl)), hw1.ext_out⟩

theorem aShort_ok (w : World) {p : Prefix} : Val Tryz.prog 163 [(Value.agg [(vi p.addr), (vi p.bits)].toArray)] w (Value.bool (aShort p)) := by
 have hF := Is.refl (aShort p)
 refine enter Tryz.func163 Tryz.ntmps163 (h := ?_)
 refine Z2 ?_
 refine JL_a noMk (a_box (l := [_, _])) (k := fun r1 hr1 => ?_)
 refine Z91 ?_
 refine JL_q (q_fld FO_223_0) (k := ?_)
 refine JL_q (q_fld FO_30_1) (k := ?_)
 refine Z499 ?_
 refine Z328 ?_
 refine JL_dec 7 rfl (fun hq1 => ?_) (fun hq1 => ?_)
 rotate_left
 ·refine JL_skips 4 rfl ?_
  refine Z252 ?_
  refine Z26 ?_
  refine JX_ret Tryz.results163 (Res.tmp rfl Res.nil) (fun w1 hw1 => ?_)
  exact ⟨(by rw [(hF.neg hq1).eq] <;> first | rfl | (simp only [List.length_set] <;> rfl)), hw1.ext_out⟩
 refine JL_qg (q_fld FO_223_0) (k := ?_)
 refine JL_qg (q_fld FO_30_1) (k := ?_)
 refine Z415 ?_
 refine Z18 ?_
 refine JL_dec 13 rfl (fun hq2 => ?_) (fun hq2 => ?_)
 rotate_left
 ·refine JL_skips 4 rfl ?_
  refine Z26 ?_
  refine JX_ret Tryz.results163 (Res.tmp rfl Res.nil) (fun w1 hw1 => ?_)
  exact ⟨(by rw [((hF.pos hq1).neg hq2).eq] <;> first | rfl | (simp only [List.length_set] <;> rfl)), hw1.ext_out⟩
 refine JL_qg (q_fld FO_223_0) (k := ?_)
 refine JL_qg (q_fld FO_30_0) (k := ?_)
 refine Z500 ?_
 refine JL_vg (c_callA Tryz.call174) (fun w1 hw1 => isAddr_ok w1 (a := p.addr)) (k := ?_)
 refine Z79 ?_
 refine JX_ret Tryz.results163 (Res.tmp rfl Res.nil) (fun w1 hw1 => ?_)
 exact ⟨(by rw [((hF.pos hq1).pos hq2).eq] <;> first | rfl | (simp only [List.length_set] <;> rfl)), hw1.ext_out⟩

theorem aEven_ok (w : World) {p : Prefix} (hb : 0 ≤ p.bits ∧ p.bits ≤ 32) : Val Tryz.prog 164 [(Value.agg [(vi p.addr), (vi p.bits)].toArray)] w (Value.bool (aEven p)) := by
 have hF := Is.refl (aEven p)
 refine enter Tryz.func164 Tryz.ntmps164 (h := ?_)
 refine Z2 ?_
 refine JL_a noMk (a_box (l := [_, _])) (k := fun r1 hr1 => ?_)
 refine Z31 ?_
 refine J_plan mixed 8 [(true, 0), (true, 1), (true, 2), (true, 3), (false, 4), (true, 5), (true, 6), (true, 7)] (by kernel_rfl) ?_
 refine JD_q (q_fld FO_223_0) (k := ?_)
 refine JD_q (q_fld FO_30_0) (k := ?_)
 refine Z496 ?_
 refine JD_q (q_loadA Tryz.isAgg223 Tryz.sizeOf223) (k := ?_)
 refine JD_v (c_callA Tryz.call175) (fun w1 hw1 => aRest_ok w1 (p := p) (hb := by first | exact lb | decide)) (k := ?_)
 refine JD_q q_andW (k := ?_)
 refine JD_q q_eql (k := ?_)
 refine Z86 ?_
 refine JX_ret Tryz.results164 (Res.tmp rfl Res.nil) (fun w1 hw1 => ?_)
 exact ⟨(by rw [hF.eq] <;> first | rfl | (simp only [List.length_set] <;> rfl)), hw1.ext_out⟩

theorem aRight_ok (w : World) {p : Prefix} : Val Tryz.prog 153 [(Value.agg [(vi p.addr), (vi p.bits)].toArray)] w (Value.bool (aRight p)) := by
 have hF := Is.refl (aRight p)
 refine enter Tryz.func153 Tryz.ntmps153 (h := ?_)
 refine Z2 ?_
 refine JL_a noMk (a_box (l := [_, _])) (k := fun r1 hr1 => ?_)
 refine Z427 ?_
 refine JL_a noMk (a_bslice (l := [_, _]) Tryz.runUnderlying224 Tryz.sizeOf221 Tryz.zeroValue221) (k := fun r2 hr2 => ?_)
 refine JL_q (q_lenS Tryz.runUnderlying224) (k := ?_)
 refine Z283 ?_
 refine Z69 ?_
 refine JL_q (q_idxO Tryz.runUnderlying224 Tryz.sizeOf221 0) (k := ?_)
 refine JL_q (q_load Tryz.isAgg221) (k := ?_)
 refine Z107 ?_
 refine JL_q (q_loadA Tryz.isAgg30 Tryz.sizeOf30) (k := ?_)
 refine JL_q (q_build (cs := [_, _]) Tryz.zeroValue223 PL_223) (k := ?_)
 refine JL_v (c_callA Tryz.call163) (fun w1 hw1 => aShort_ok w1 (p := p)) (k := ?_)
 refine Z189 ?_
 refine J_cond rfl (fun hq1 => ?_) (fun hq1 => ?_)
 ·refine J_seq ?_
  refine Z486 ?_
  refine Z105 ?_
  refine JX_ret Tryz.results153 (Res.tmp rfl Res.nil) (fun w1 hw1 => ?_)
  exact ⟨(by rw [(hF.t hq1).eq] <;> first | rfl | (simp only [List.length_set] <;> rfl)), hw1.ext_out⟩
 have hfhq1 := aShort_t (by simpa using hq1)
 refine Z100 ?_
 refine JL_q (q_idxO Tryz.runUnderlying224 Tryz.sizeOf221 1) (k := ?_)
 refine JL_q (q_load Tryz.isAgg221) (k := ?_)
 refine Z107 ?_
 refine JL_q (q_loadA Tryz.isAgg30 Tryz.sizeOf30) (k := ?_)
 refine JL_q (q_build (cs := [_, _]) Tryz.zeroValue223 PL_223) (k := ?_)
 refine JL_v (c_callA Tryz.call164) (fun w1 hw1 => aEven_ok w1 (p := p) (hb := by first | exact lb | decide)) (k := ?_)
 refine Z189 ?_
 refine J_cond rfl (fun hq2 => ?_) (fun hq2 => ?_)
 ·refine J_seq ?_
  refine Z486 ?_
  refine Z105 ?_
  refine JX_ret Tryz.results153 (Res.tmp rfl Res.nil) (fun w1 hw1 => ?_)
  exact ⟨(by rw [((hF.f hq1).t hq2).eq] <;> first | rfl | (simp only [List.length_set] <;> rfl)), hw1.ext_out⟩
 refine Z250 ?_
 refine Z272 ?_
 refine JX_ret Tryz.results153 (Res.tmp rfl Res.nil) (fun w1 hw1 => ?_)
 exact ⟨(by rw [((hF.f hq1).f hq2).eq] <;> first | rfl | (simp only [List.length_set] <;> rfl)), hw1.ext_out⟩

theorem pRight_ok (w : World) {p : PortsT} : Val Tryz.prog 154 [(Value.agg [(vi p.lo), (vi p.hi)].toArray)] w (Value.bool (pRight p)) := by
 have hF := Is.refl (pRight p)
 refine enter Tryz.func154 Tryz.ntmps154 (h := ?_)
 refine Z2 ?_
 refine JL_a noMk (a_box (l := [_, _])) (k := fun r1 hr1 => ?_)
 refine Z91 ?_
 refine JL_q (q_loadA Tryz.isAgg32 Tryz.sizeOf32) (k := ?_)
 refine JL_a noMk (a_bslice (l := [_, _, _]) Tryz.runUnderlying232 Tryz.sizeOf226 Tryz.zeroValue226) (k := fun r2 hr2 => ?_)
 refine JL_inl (args := [_, _]) (c_callA Tryz.call165) Tryz.func165 Tryz.ntmps165 ?_
 refine Z2 ?_
 refine JL_a noMk (a_box (l := [_, _])) (k := fun r3 hr3 => ?_)
 refine Z104 ?_
 refine JL_q (q_lenS Tryz.runUnderlying232) (k := ?_)
 refine Z283 ?_
 refine Z69 ?_
 refine JL_q (q_idxO Tryz.runUnderlying232 Tryz.sizeOf226 0) (k := ?_)
 refine JL_q (q_load Tryz.isAgg226) (k := ?_)
 refine Z107 ?_
 refine Z350 ?_
 refine JL_inl (args := [_]) (c_callA Tryz.call166) Tryz.func166 Tryz.ntmps166 ?_
 refine Z2 ?_
 refine JL_a noMk (a_box (l := [_, _])) (k := fun r4 hr4 => ?_)
 refine Z91 ?_
 refine JL_q (q_fld FO_228_0) (k := ?_)
 refine JL_q (q_fld FO_32_0) (k := ?_)
 refine Z499 ?_
 refine JL_q (q_fld FO_228_0) (k := ?_)
 refine JL_q (q_fld FO_32_1) (k := ?_)
 refine Z499 ?_
 refine JL_q q_leq (k := ?_)
 refine Z6 ?_
 refine JX_retI Tryz.results166 (Res.tmp rfl Res.nil) ?_
 refine Z257 ?_
 refine J_dec rfl (fun hq1 => ?_) (fun hq1 => ?_)
 ·refine J_seq ?_
  refine Z486 ?_
  refine Z105 ?_
  refine Z430 ?_
  refine JX_ret Tryz.results154 (Res.tmp rfl Res.nil) (fun w1 hw1 => ?_)
  exact ⟨(by rw [(hF.pos hq1).eq] <;> first | rfl | (simp only [List.length_set] <;> rfl)), hw1.ext_out⟩
 refine Z100 ?_
 refine JL_q (q_idxO Tryz.runUnderlying232 Tryz.sizeOf226 1) (k := ?_)
 refine JL_q (q_load Tryz.isAgg226) (k := ?_)
 refine Z107 ?_
 refine Z350 ?_
 refine JL_inl (args := [_]) (c_callA Tryz.call167) Tryz.func167 Tryz.ntmps167 ?_
 refine Z2 ?_
 refine JL_a noMk (a_box (l := [_, _])) (k := fun r5 hr5 => ?_)
 refine Z91 ?_
 refine JL_q (q_fld FO_228_0) (k := ?_)
 refine JL_q (q_fld FO_32_0) (k := ?_)
 refine Z499 ?_
 refine JL_q q_geq (k := ?_)
 refine Z6 ?_
 refine JX_retI Tryz.results167 (Res.tmp rfl Res.nil) ?_
 refine Z257 ?_
 refine J_dec rfl (fun hq2 => ?_) (fun hq2 => ?_)
 ·refine J_seq ?_
  refine Z486 ?_
  refine Z105 ?_
  refine Z430 ?_
  refine JX_ret Tryz.results154 (Res.tmp rfl Res.nil) (fun w1 hw1 => ?_)
  exact ⟨(by rw [((hF.neg hq1).pos hq2).eq] <;> first | rfl | (simp only [List.length_set] <;> rfl)), hw1.ext_out⟩
 refine Z100 ?_
 refine JL_q (q_idxO Tryz.runUnderlying232 Tryz.sizeOf226 2) (k := ?_)
 refine JL_q (q_load Tryz.isAgg226) (k := ?_)
 refine Z107 ?_
 refine Z350 ?_
 refine JL_inl (args := [_]) (c_callA Tryz.call168) Tryz.func168 Tryz.ntmps168 ?_
 refine Z2 ?_
 refine JL_a noMk (a_box (l := [_, _])) (k := fun r6 hr6 => ?_)
 refine Z91 ?_
 refine JL_q (q_fld FO_228_0) (k := ?_)
 refine JL_q (q_fld FO_32_1) (k := ?_)
 refine Z499 ?_
 refine JL_q q_leq (k := ?_)
 refine Z6 ?_
 refine JX_retI Tryz.results168 (Res.tmp rfl Res.nil) ?_
 refine Z257 ?_
 refine J_dec rfl (fun hq3 => ?_) (fun hq3 => ?_)
 ·refine J_seq ?_
  refine Z486 ?_
  refine Z105 ?_
  refine Z430 ?_
  refine JX_ret Tryz.results154 (Res.tmp rfl Res.nil) (fun w1 hw1 => ?_)
  exact ⟨(by rw [(((hF.neg hq1).neg hq2).pos hq3).eq] <;> first | rfl | (simp only [List.length_set] <;> rfl)), hw1.ext_out⟩
 refine Z250 ?_
 refine Z272 ?_
 refine Z430 ?_
 refine JX_ret Tryz.results154 (Res.tmp rfl Res.nil) (fun w1 hw1 => ?_)
 exact ⟨(by rw [(((hF.neg hq1).neg hq2).neg hq3).eq] <;> first | rfl | (simp only [List.length_set] <;> rfl)), hw1.ext_out⟩

end Go.Proofs.YtopjaeoklkpcpaaGreatDoor.Jd

namespace Go.Proofs.YtopjaeoklkpcpaaGreatDoor.Jd
open Go.Proofs
open Go.RowKit (Below)
set_option maxRecDepth 100000
set_option maxHeartbeats 8000000
set_option linter.unusedVariables false
set_option linter.unusedSimpArgs false
def eRule (x : Rule) : List Value := [Value.bool x.allow, vi x.pfx.addr, vi x.pfx.bits, vi x.prt.lo, vi x.prt.hi]
theorem eRule_ok : EncOk eRule 5 := ⟨by omega, fun _ => rfl, fun _ => rfl⟩
theorem FO_34_1 : FieldOff Tryz.prog 34 1 1 := fun r k w => by simp [Instr.fieldAt, Instr.sureAddr, fieldPlace, addr_add]
theorem FO_34_2 : FieldOff Tryz.prog 34 2 3 := fun r k w => by simp [Instr.fieldAt, Instr.sureAddr, fieldPlace, addr_add]
theorem FO_189_0 : FieldOff Tryz.prog 189 0 0 := fun r k w => by simp [Instr.fieldAt, Instr.sureAddr, fieldPlace, addr_add]
theorem PL_189 : Places Tryz.prog 189 [(0, 5)] := ⟨_, fun w => Tryz.runUnderlying189 w, fun w => by simp⟩
theorem TY_34 : Ty Tryz.prog 34 5 40 (Value.agg [(Value.bool false), (vi 0), (vi 0), (vi 0), (vi 0)].toArray) := ⟨⟨Tryz.t34, by kernel_rfl, rfl, rfl, rfl⟩, rfl⟩
theorem ins_grow {α : Type} {s zs : List α} {I n : Nat} {x : α} (hI : I ≤ s.length) (hn : n = s.length - I) (h1 : zs.take I = s.take I) (h2 : zs.length = s.length + 1) :
  (zs.take I ++ [x].take 1 ++ zs.drop (I + 1)).take (I + 1) ++ (s.drop I).take n ++ (zs.take I ++ [x].take 1 ++ zs.drop (I + 1)).drop (I + 1 + n) = insL s I x := by
 subst hn
 have l1 : (s.take I).length = I := by rw [List.length_take]; omega
 have l2 : (s.take I ++ [x]).length = I + 1 := by simp [l1]
 have e1 : [x].take 1 = [x] := rfl
 have e3 : (s.drop I).take (s.length - I) = s.drop I := List.take_of_length_le (by simp)
 have e4 : (s.take I ++ [x] ++ zs.drop (I + 1)).drop (I + 1 + (s.length - I)) = [] := List.drop_eq_nil_of_le (by rw [List.length_append, l2, List.length_drop, h2]; omega)
 rw [h1, e1, e3, List.take_left' l2, e4]
 simp [insL]
theorem ins_shift {α : Type} {s : List α} {I n : Nat} {x : α} (hI : I < s.length) (hn : n = s.length - I) :
  (s.take (I + 1) ++ (s.drop I).take n ++ s.drop (I + 1 + n)).take I ++ [x].take 1 ++ (s.take (I + 1) ++ (s.drop I).take n ++ s.drop (I + 1 + n)).drop (I + 1) = insL s I x := by
 subst hn
 have l1 : (s.take (I + 1)).length = I + 1 := by rw [List.length_take]; omega
 rw [List.drop_eq_nil_of_le (show s.length ≤ I + 1 + (s.length - I) by omega), List.append_nil, List.take_of_length_le (show (s.drop I).length ≤ s.length - I by simp), List.drop_left' l1, List.take_append_of_le_length (by omega), List.take_take, Nat.min_eq_left (by omega)]
 simp [insL]
theorem ins_end {α : Type} {s : List α} {i : Int} {x : α} (h : i = (s.length : Int)) : s ++ [x] = insL s i.toNat x := by
 have : i.toNat = s.length := by omega
 rw [this, insL_end]
theorem q_overlaps177 {N : Nat} {D : List Deferred} {b0 : World} {L : Heap} {E : Env} {ty : TypeId} {x y : Operand} {tys : Array TypeId} {v_a s_a : Option Addr} {v_c s_c lo n cc : Nat} {s_B : Heap} {s : List Rule} (he : ∃ r cs T, v_a = some (⟨r, 0, none⟩ : Addr) ∧ b0.heap[r]? = some (.cells cs T (0, 0)) ∧ r ∉ keys s_B) (ho : OwnB eRule 5 34 s_a s_c s_B s) (hs : 0 < s_c)
  (hB : ∀ p ∈ s_B, p ∈ L) (hx : ev E x = some (.slice v_a 1 v_c) := by rfl) (hy : ev E y = some (.slice (offA s_a 5 lo s_c) n cc) := by rfl) :
  RunQ Tryz.prog N D b0 (keys s_B) L E (.call { callee := .value (.func 177), args := #[x, y], argTypes := tys }) ty (.bool false) := fun ac w ha hw => by
 obtain ⟨r, cs, T, rfl, hr, hnr⟩ := he
 rcases ho with ⟨rfl, rfl, rfl⟩ | ⟨r', cur, fz, rfl, rfl, hfz, h1, h2, h3⟩
 ·omega
 ·have hh : w.heap[r']? = some (.cells cur 34 fz) := hw.own _ (hB _ List.mem_cons_self)
  have hv : w.heap[r]? = some (.cells cs T (0, 0)) := (hw.same r (Array.getElem?_eq_some_iff.1 hr).1 hnr).trans hr
  have hne : r ≠ r' := fun e => hnr (by subst e; simp [keys])
  obtain ⟨ad, hoff, had⟩ : ∃ ad : Addr, offA (some (⟨r', 0, none⟩ : Addr)) 5 lo s_c = some ad ∧ ad.block = r' := by
   unfold offA
   split
   ·exact ⟨_, rfl, rfl⟩
   ·exact ⟨_, rfl, by show (Addr.add ⟨r', 0, none⟩ _).block = r'; rw [addr_add]⟩
  have hfr : ∀ k, w.frozen? ⟨r, k, none⟩ = false := fun k => by simp [World.frozen?, hv]
  have hrun := Lib.run_overlaps_apart (P := Tryz.prog) w 49 4 34 Tryz.underlying49 5 Tryz.sizeOf34 (⟨r, 0, none⟩ : Addr) ad 1 v_c n cc (by rw [had]; exact hne) T 34 cs.size cur.size (by simp [World.shape?, hv]) (by rw [had]; simp [World.shape?, hh]) (by rw [h2]; omega) (hfr 0) (hfr cs.size)
  have h8 := @run_callFunc_extern Tryz.prog 177 _ (Extern.SlicesOverlaps.overlaps #[49, 49] #[4]) Tryz.func177 (by kernel_rfl) (by kernel_rfl) (by kernel_rfl) (by kernel_rfl)
  rw [hoff] at hy
  simp only [mkO, execOp, resolve, Sem.run_bind, Act.eval, Deferred.ofValue, Sem.run_pure, Result.andThen_ok]
  simp only [invoke, List.map_toArray, List.map_cons, List.map_nil, ha.eval hx, ha.eval hy]
  have h9 := h8 #[vs (some { block := r, off := 0 }) 1 v_c, vs (some ad) n cc] w
  rw [hrun] at h9
  simpa using h9
theorem ruClone_ok (w : World) {s_a : Option Addr} {s_c : Nat} {s : List Rule} (h_s : Sl w eRule 5 s_a s) (n_s : s.length ≤ 1000000) : Calls Tryz.prog 82 (List.toArray [(vs s_a s.length s_c)]) w fun e w2 => ∃ a1 : Option Addr, ∃ c1 : Nat, ∃ B1 : Heap, e = .returned (vs a1 s.length c1) ∧ Fresh w w2 B1 ∧ OwnB eRule 5 34 a1 c1 B1 s := by
 have hF := Is.refl s
 refine enter Tryz.func82 Tryz.ntmps82 (h := ?_)
 refine Z216 ?_
 refine JL_q (q_eqNil Tryz.runUnderlying49) (k := ?_)
 refine Z0 ?_
 refine J_cond rfl (fun hq1 => ?_) (fun hq1 => ?_)
 ·refine J_seq ?_
  refine Z270 ?_
  refine JX_ret Tryz.results82 (Res.tmp rfl Res.nil) (fun w1 hw1 => ?_)
  have hcan0 : ([] : List Rule) = s := by (first | rfl | (exact clone_nil h_s (by assumption)))
  have hlen0 : 0 = s.length := by first | (rw [← hcan0]; done) | (rw [← hcan0]; first | rfl | (simp; done) | (simp only [List.length_append, List.length_take, List.length_drop, List.length_set, List.length_replicate, List.length_cons, List.length_nil, List.length_map, toS_length, toI_length]; omega) | (simp; omega))
  exact ⟨none, 0, [], (by rw [← hlen0]; first | rfl | rfl), (hw1.fresh_out.sub (List.nil_sublist _)), (hcan0 ▸ OwnB.nil)⟩
 refine Z390 ?_
 refine JL_a noMk (a_bslice (l := []) Tryz.runUnderlying49 Tryz.sizeOf34 Tryz.zeroValue34) (k := fun r1 hr1 => ?_)
 refine Z481 ?_
 refine JL_append s (List.nil_append _) TY_34 Tryz.underlying49 eRule_ok OwnB.nil (List.Perm.refl _) (SlJ.of_base h_s) ⟨by omega, by omega⟩ (n := 0) (m := s.length) (k := fun ax1 cx1 Bx1 hox1 => ?_)
 refine Z6 ?_
 refine JX_ret Tryz.results82 (Res.tmp rfl Res.nil) (fun w1 hw1 => ?_)
 have hcan0 : s = s := by (first | rfl | (exact clone_nil h_s (by assumption)))
 have hlen0 : s.length = s.length := by first | (rw [← hcan0]; done) | (rw [← hcan0]; first | rfl | (simp; done) | (simp only [List.length_append, List.length_take, List.length_drop, List.length_set, List.length_replicate, List.length_cons, List.length_nil, List.length_map, toS_length, toI_length]; omega) | (simp; omega))
 exact ⟨ax1, cx1, Bx1, (by rw [← hlen0]; first | rfl | rfl), (fresh_segs (L := Bx1) (hw1.perm (List.Perm.refl _)) rfl.symm), (hcan0 ▸ hox1)⟩

theorem ruInsert_ok (w : World) {s_a : Option Addr} {s_c : Nat} {s_B : Heap} {v_a : Option Addr} {v_c : Nat} {s : List Rule} {i : Int} {x : Rule} (o_s : OwnB eRule 5 34 s_a s_c s_B s) (b_s : ∀ p ∈ s_B, w.heap[p.1]? = some p.2) (n_s : s.length ≤ 1000000) (h_v : Sl w eRule 5 v_a ([x] : List Rule)) (d_v : ∀ m ∈ keys s_B, NotIn v_a ([x] : List Rule) m) (e_v : ∃ r cs T, v_a = some ⟨r, 0, none⟩ ∧ w.heap[r]? = some (.cells cs T (0, 0)) ∧ r ∉ keys s_B) (hi : 0 ≤ i ∧ i ≤ s.length) : Calls Tryz.prog 172 (List.toArray [(vs s_a s.length s_c), (vi i), (vs v_a 1 v_c)]) w fun e w2 => ∃ a1 : Option Addr, ∃ c1 : Nat, ∃ B1 : Heap, e = .returned (vs a1 ((insL s i.toNat x).length) c1) ∧ Tr w w2 s_B B1 ∧ OwnB eRule 5 34 a1 c1 B1 (insL s i.toNat x) := by
 have hF := Is.refl (insL s i.toNat x)
 have hiN : i.toNat ≤ s.length := by omega
 have hi1 : (i + 1).toNat = i.toNat + 1 := by omega
 have hMk : ∀ k ∈ keys s_B, k < w.heap.size := fun k hk => by
  obtain ⟨o, ho⟩ := keys_mem hk
  exact (Array.getElem?_eq_some_iff.1 (b_s _ ho)).1
 have hle0 := o_s.le'
 refine enterM (keys s_B) (s_B ++ []) (by simpa using b_s) (fun p hp => mem_keys (by simpa using hp)) (by simpa using o_s.nd) Tryz.func172 Tryz.ntmps172 (h := ?_)
 refine Z2 ?_
 refine Z276 ?_
 have hle1 := o_s.le'
 have hld2 : (s.drop i.toNat).length = s.length - i.toNat := List.length_drop
 refine JL_q (q_sliceLo (n := s.length) (c := s_c) (i := i) i.toNat (s.drop i.toNat).length Tryz.runUnderlying49 Tryz.sizeOf34 (hlo := by first | exact ix) (hnc := by first | omega | exact Nat.le_refl _) (hm := by first | rfl | (simp; done) | ((simp only [List.length_append, List.length_take, List.length_drop, List.length_set, List.length_replicate, List.length_cons, List.length_nil, List.length_map, toS_length, toI_length]) <;> omega))) (k := ?_)
 refine Z237 ?_
 refine Z501 ?_
 refine Z104 ?_
 refine JL_q q_eql (k := ?_)
 refine Z49 ?_
 refine Z428 ?_
 refine Z501 ?_
 refine Z31 ?_
 refine Z39 ?_
 refine Z281 ?_
 refine J_dec rfl (fun hq3 => ?_) (fun hq3 => ?_)
 ·refine J_seq ?_
  refine Z174 ?_
  refine JL_append (s ++ ([x] : List Rule)) rfl TY_34 Tryz.underlying49 eRule_ok o_s q0 (SlJ.of_world h_v d_v) ⟨by omega, by omega⟩ (n := s.length) (m := 1) (k := fun ax1 cx1 Bx1 hox1 => ?_)
  have hal1 : (s ++ ([x] : List Rule)).length = s.length + 1 := by first | rfl | exact List.length_append | simp
  refine Z41 ?_
  refine JX_ret Tryz.results172 (Res.tmp rfl Res.nil) (fun w1 hw1 => ?_)
  have hcan0 : (s ++ ([x] : List Rule)) = (insL s i.toNat x) := by (first | exact ins_end (by omega) | (simp only [hi1]; exact ins_grow hiN rfl (List.take_left' (by rw [List.length_take]; omega)) (by simp only [List.length_append, List.length_take, List.length_replicate]; omega)) | (simp only [hi1]; exact ins_shift (by omega) rfl))
  have hlen0 : (s ++ ([x] : List Rule)).length = (insL s i.toNat x).length := by first | (rw [← hcan0]; done) | (rw [← hcan0]; first | rfl | (simp; done) | (simp only [List.length_append, List.length_take, List.length_drop, List.length_set, List.length_replicate, List.length_cons, List.length_nil, List.length_map, toS_length, toI_length]; omega) | (simp; omega))
  exact ⟨ax1, cx1, Bx1, (by rw [← hlen0]; first | rfl | rfl), ((hw1.perm (List.Perm.refl _)).tr_out.sub (by first | exact List.sublist_append_left _ _ | exact List.nil_sublist _)), (hcan0 ▸ hox1)⟩
 refine Z167 ?_
 refine Z39 ?_
 refine Z9 ?_
 refine JL_q (q_cap Tryz.runUnderlying49) (k := ?_)
 refine JL_q q_gtr (k := ?_)
 refine Z0 ?_
 refine J_dec rfl (fun hq4 => ?_) (fun hq4 => ?_)
 ·refine J_seq ?_
  refine Z174 ?_
  have hl5 : (s.take i.toNat).length = i.toNat := by rw [List.length_take]; omega
  have hl5c := o_s.le'
  refine JL_q (q_sliceHi' (s.take i.toNat).length Tryz.runUnderlying49 (fun w => ⟨_, Tryz.sizeOf34 w⟩) (hm := by omega) (hi := by omega)) (k := ?_)
  refine Z27 ?_
  refine Z9 ?_
  refine Z495 ?_
  refine JL_appendZ (i := ((((s.length : Nat) : Int) + 1) - i)) (n := (s.take i.toNat).length) (c := s_c) (x0 := default) (xs := (s.take i.toNat)) (m := ((((s.length : Nat) : Int) + 1) - i).toNat) TY_34 Tryz.underlying49 Tryz.underlying3 eRule_ok rfl ((o_s.take eRule_ok i.toNat).slj eRule_ok) (by first | exact ix) (by first | exact ix) (by first | exact ix) ⟨by first | exact ix, by first | exact ix⟩ (by omega) (k := fun ax2 cx2 Bx2 hox2 => ?_)
  refine Z276 ?_
  have hle6 := hox2.le'
  have hld7 : (((s.take i.toNat) ++ List.replicate (((((s.length : Nat) : Int) + 1) - i).toNat) default).drop i.toNat).length = ((s.take i.toNat) ++ List.replicate (((((s.length : Nat) : Int) + 1) - i).toNat) default).length - i.toNat := List.length_drop
  refine JL_q (q_sliceLo (n := ((s.take i.toNat) ++ List.replicate (((((s.length : Nat) : Int) + 1) - i).toNat) default).length) (c := cx2) (i := i) i.toNat (((s.take i.toNat) ++ List.replicate (((((s.length : Nat) : Int) + 1) - i).toNat) default).drop i.toNat).length Tryz.runUnderlying49 Tryz.sizeOf34 (hlo := by first | exact ix) (hnc := by first | omega | exact Nat.le_refl _) (hm := by first | rfl | (simp; done) | ((simp only [List.length_append, List.length_take, List.length_drop, List.length_set, List.length_replicate, List.length_cons, List.length_nil, List.length_map, toS_length, toI_length]) <;> omega))) (k := ?_)
  refine Z481 ?_
  refine JL_copyOff (dn := (((s.take i.toNat) ++ List.replicate (((((s.length : Nat) : Int) + 1) - i).toNat) default).drop i.toNat).length) (sn := 1) i.toNat 1 (((s.take i.toNat) ++ List.replicate (((((s.length : Nat) : Int) + 1) - i).toNat) default).take i.toNat ++ ([x] : List Rule).take 1 ++ ((s.take i.toNat) ++ List.replicate (((((s.length : Nat) : Int) + 1) - i).toNat) default).drop (i.toNat + 1)) rfl TY_34 Tryz.underlying49 eRule_ok hox2 q0 (SlJ.of_world h_v d_v) (by first | exact lb) (by first | exact lb) (by first | exact lb) (by first | exact lb) (kk := fun Bx3 hox3 => ?_)
  refine Z72 ?_
  refine Z419 ?_
  refine Z483 ?_
  refine JD_q q_add (k := ?_)
  have hle8 := hox3.le'
  have hld9 : ((((s.take i.toNat) ++ List.replicate (((((s.length : Nat) : Int) + 1) - i).toNat) default).take i.toNat ++ ([x] : List Rule).take 1 ++ ((s.take i.toNat) ++ List.replicate (((((s.length : Nat) : Int) + 1) - i).toNat) default).drop (i.toNat + 1)).drop ((i + 1).toNat)).length = (((s.take i.toNat) ++ List.replicate (((((s.length : Nat) : Int) + 1) - i).toNat) default).take i.toNat ++ ([x] : List Rule).take 1 ++ ((s.take i.toNat) ++ List.replicate (((((s.length : Nat) : Int) + 1) - i).toNat) default).drop (i.toNat + 1)).length - ((i + 1).toNat) := List.length_drop
  refine JD_q (q_sliceLo (n := ((s.take i.toNat) ++ List.replicate (((((s.length : Nat) : Int) + 1) - i).toNat) default).length) (c := cx2) (i := (i + 1)) ((i + 1).toNat) ((((s.take i.toNat) ++ List.replicate (((((s.length : Nat) : Int) + 1) - i).toNat) default).take i.toNat ++ ([x] : List Rule).take 1 ++ ((s.take i.toNat) ++ List.replicate (((((s.length : Nat) : Int) + 1) - i).toNat) default).drop (i.toNat + 1)).drop ((i + 1).toNat)).length Tryz.runUnderlying49 Tryz.sizeOf34 (hlo := by first | exact ix) (hnc := by first | omega | exact Nat.le_refl _) (hm := by first | rfl | (simp; done) | ((simp only [List.length_append, List.length_take, List.length_drop, List.length_set, List.length_replicate, List.length_cons, List.length_nil, List.length_map, toS_length, toI_length]) <;> omega))) (k := ?_)
  refine Z62 ?_
  have hle10 := o_s.le'
  have hld11 : (s.drop i.toNat).length = s.length - i.toNat := List.length_drop
  refine JD_q (q_sliceLo (n := s.length) (c := s_c) (i := i) i.toNat (s.drop i.toNat).length Tryz.runUnderlying49 Tryz.sizeOf34 (hlo := by first | exact ix) (hnc := by first | omega | exact Nat.le_refl _) (hm := by first | rfl | (simp; done) | ((simp only [List.length_append, List.length_take, List.length_drop, List.length_set, List.length_replicate, List.length_cons, List.length_nil, List.length_map, toS_length, toI_length]) <;> omega))) (k := ?_)
  refine JD_copyOff (dn := ((((s.take i.toNat) ++ List.replicate (((((s.length : Nat) : Int) + 1) - i).toNat) default).take i.toNat ++ ([x] : List Rule).take 1 ++ ((s.take i.toNat) ++ List.replicate (((((s.length : Nat) : Int) + 1) - i).toNat) default).drop (i.toNat + 1)).drop ((i + 1).toNat)).length) (sn := (s.drop i.toNat).length) ((i + 1).toNat) (s.length - i.toNat) ((((s.take i.toNat) ++ List.replicate (((((s.length : Nat) : Int) + 1) - i).toNat) default).take i.toNat ++ ([x] : List Rule).take 1 ++ ((s.take i.toNat) ++ List.replicate (((((s.length : Nat) : Int) + 1) - i).toNat) default).drop (i.toNat + 1)).take ((i + 1).toNat) ++ (s.drop i.toNat).take (s.length - i.toNat) ++ (((s.take i.toNat) ++ List.replicate (((((s.length : Nat) : Int) + 1) - i).toNat) default).take i.toNat ++ ([x] : List Rule).take 1 ++ ((s.take i.toNat) ++ List.replicate (((((s.length : Nat) : Int) + 1) - i).toNat) default).drop (i.toNat + 1)).drop ((i + 1).toNat + (s.length - i.toNat))) rfl TY_34 Tryz.underlying49 eRule_ok hox3 q0 (SlJ.off (o_s.slj eRule_ok (by intro p hp; first | exact hp | (simp [hp]; done))) i.toNat s_c (by first | omega | exact Nat.le_refl _)) (by first | exact lb) (by first | exact lb) (by first | exact lb) (by first | exact lb) (kk := fun Bx5 hox5 => ?_)
  refine Z273 ?_
  refine Z237 ?_
  refine Z41 ?_
  refine JX_ret Tryz.results172 (Res.tmp rfl Res.nil) (fun w1 hw1 => ?_)
  have hcan0 : ((((s.take i.toNat) ++ List.replicate (((((s.length : Nat) : Int) + 1) - i).toNat) default).take i.toNat ++ ([x] : List Rule).take 1 ++ ((s.take i.toNat) ++ List.replicate (((((s.length : Nat) : Int) + 1) - i).toNat) default).drop (i.toNat + 1)).take ((i + 1).toNat) ++ (s.drop i.toNat).take (s.length - i.toNat) ++ (((s.take i.toNat) ++ List.replicate (((((s.length : Nat) : Int) + 1) - i).toNat) default).take i.toNat ++ ([x] : List Rule).take 1 ++ ((s.take i.toNat) ++ List.replicate (((((s.length : Nat) : Int) + 1) - i).toNat) default).drop (i.toNat + 1)).drop ((i + 1).toNat + (s.length - i.toNat))) = (insL s i.toNat x) := by (first | exact ins_end (by omega) | (simp only [hi1]; exact ins_grow hiN rfl (List.take_left' (by rw [List.length_take]; omega)) (by simp only [List.length_append, List.length_take, List.length_replicate]; omega)) | (simp only [hi1]; exact ins_shift (by omega) rfl))
  have hlen0 : ((s.take i.toNat) ++ List.replicate (((((s.length : Nat) : Int) + 1) - i).toNat) default).length = (insL s i.toNat x).length := by first | (rw [← hcan0]; done) | (rw [← hcan0]; first | rfl | (simp; done) | (simp only [List.length_append, List.length_take, List.length_drop, List.length_set, List.length_replicate, List.length_cons, List.length_nil, List.length_map, toS_length, toI_length]; omega) | (simp; omega))
  exact ⟨ax2, cx2, Bx5, (by rw [← hlen0]; first | rfl | rfl), ((hw1.perm (List.Perm.refl _)).tr_out.sub (by first | exact List.sublist_append_left _ _ | exact List.nil_sublist _)), (hcan0 ▸ hox5)⟩
 refine Z428 ?_
 refine Z27 ?_
 refine Z502 ?_
 refine JL_q (q_sliceHi' (s.length + 1) Tryz.runUnderlying49 (fun w => ⟨_, Tryz.sizeOf34 w⟩) (hm := by omega) (hi := by omega)) (k := ?_)
 refine Z104 ?_
 refine Z27 ?_
 refine Z232 ?_
 have hle12 := o_s.le'
 have hld13 : (s.drop ((i + 1).toNat)).length = s.length - ((i + 1).toNat) := List.length_drop
 refine JL_q (q_sliceLo (n := (s.length + 1)) (c := s_c) (i := (i + 1)) ((i + 1).toNat) ((s.length + 1) - (i + 1).toNat) Tryz.runUnderlying49 Tryz.sizeOf34 (hlo := by first | exact ix) (hnc := by first | omega | exact Nat.le_refl _) (hm := by first | rfl | (simp; done) | ((simp only [List.length_append, List.length_take, List.length_drop, List.length_set, List.length_replicate, List.length_cons, List.length_nil, List.length_map, toS_length, toI_length]) <;> omega))) (k := ?_)
 refine JL_q (q_overlaps177 e_v o_s (by omega) (by intro p hp; simp [hp])) (k := ?_)
 refine Z416 ?_
 refine J_seq ?_
 refine Z419 ?_
 refine Z483 ?_
 refine JD_q q_add (k := ?_)
 have hle14 := o_s.le'
 have hld15 : (s.drop ((i + 1).toNat)).length = s.length - ((i + 1).toNat) := List.length_drop
 refine JD_q (q_sliceLo (n := (s.length + 1)) (c := s_c) (i := (i + 1)) ((i + 1).toNat) ((s.length + 1) - (i + 1).toNat) Tryz.runUnderlying49 Tryz.sizeOf34 (hlo := by first | exact ix) (hnc := by first | omega | exact Nat.le_refl _) (hm := by first | rfl | (simp; done) | ((simp only [List.length_append, List.length_take, List.length_drop, List.length_set, List.length_replicate, List.length_cons, List.length_nil, List.length_map, toS_length, toI_length]) <;> omega))) (k := ?_)
 refine Z62 ?_
 have hle16 := o_s.le'
 have hld17 : (s.drop i.toNat).length = s.length - i.toNat := List.length_drop
 refine JD_q (q_sliceLo (n := (s.length + 1)) (c := s_c) (i := i) i.toNat ((s.length + 1) - i.toNat) Tryz.runUnderlying49 Tryz.sizeOf34 (hlo := by first | exact ix) (hnc := by first | omega | exact Nat.le_refl _) (hm := by first | rfl | (simp; done) | ((simp only [List.length_append, List.length_take, List.length_drop, List.length_set, List.length_replicate, List.length_cons, List.length_nil, List.length_map, toS_length, toI_length]) <;> omega))) (k := ?_)
 refine JD_copyOff (dn := ((s.length + 1) - (i + 1).toNat)) (sn := ((s.length + 1) - i.toNat)) ((i + 1).toNat) (s.length - i.toNat) (s.take ((i + 1).toNat) ++ (s.drop i.toNat).take (s.length - i.toNat) ++ s.drop ((i + 1).toNat + (s.length - i.toNat))) rfl TY_34 Tryz.underlying49 eRule_ok o_s q0 (SlJ.off (o_s.slj eRule_ok (by intro p hp; first | exact hp | (simp [hp]; done))) i.toNat s_c (by first | omega | exact Nat.le_refl _)) (by first | exact lb) (by first | exact lb) (by first | exact lb) (by first | exact lb) (kk := fun Bx7 hox7 => ?_)
 refine Z273 ?_
 refine Z0 ?_
 refine Z39 ?_
 have hle18 := hox7.le'
 have hld19 : ((s.take ((i + 1).toNat) ++ (s.drop i.toNat).take (s.length - i.toNat) ++ s.drop ((i + 1).toNat + (s.length - i.toNat))).drop i.toNat).length = (s.take ((i + 1).toNat) ++ (s.drop i.toNat).take (s.length - i.toNat) ++ s.drop ((i + 1).toNat + (s.length - i.toNat))).length - i.toNat := List.length_drop
 refine JL_q (q_sliceLo (n := (s.length + 1)) (c := s_c) (i := i) i.toNat ((s.take ((i + 1).toNat) ++ (s.drop i.toNat).take (s.length - i.toNat) ++ s.drop ((i + 1).toNat + (s.length - i.toNat))).drop i.toNat).length Tryz.runUnderlying49 Tryz.sizeOf34 (hlo := by first | exact ix) (hnc := by first | omega | exact Nat.le_refl _) (hm := by first | rfl | (simp; done) | ((simp only [List.length_append, List.length_take, List.length_drop, List.length_set, List.length_replicate, List.length_cons, List.length_nil, List.length_map, toS_length, toI_length]) <;> omega))) (k := ?_)
 refine Z481 ?_
 refine JL_copyOff (dn := ((s.take ((i + 1).toNat) ++ (s.drop i.toNat).take (s.length - i.toNat) ++ s.drop ((i + 1).toNat + (s.length - i.toNat))).drop i.toNat).length) (sn := 1) i.toNat 1 ((s.take ((i + 1).toNat) ++ (s.drop i.toNat).take (s.length - i.toNat) ++ s.drop ((i + 1).toNat + (s.length - i.toNat))).take i.toNat ++ ([x] : List Rule).take 1 ++ (s.take ((i + 1).toNat) ++ (s.drop i.toNat).take (s.length - i.toNat) ++ s.drop ((i + 1).toNat + (s.length - i.toNat))).drop (i.toNat + 1)) rfl TY_34 Tryz.underlying49 eRule_ok hox7 q0 (SlJ.of_world h_v d_v) (by first | exact lb) (by first | exact lb) (by first | exact lb) (by first | exact lb) (kk := fun Bx8 hox8 => ?_)
 refine Z237 ?_
 refine Z41 ?_
 refine JX_ret Tryz.results172 (Res.tmp rfl Res.nil) (fun w1 hw1 => ?_)
 have hcan0 : ((s.take ((i + 1).toNat) ++ (s.drop i.toNat).take (s.length - i.toNat) ++ s.drop ((i + 1).toNat + (s.length - i.toNat))).take i.toNat ++ ([x] : List Rule).take 1 ++ (s.take ((i + 1).toNat) ++ (s.drop i.toNat).take (s.length - i.toNat) ++ s.drop ((i + 1).toNat + (s.length - i.toNat))).drop (i.toNat + 1)) = (insL s i.toNat x) := by (first | exact ins_end (by omega) | (simp only [hi1]; exact ins_grow hiN rfl (List.take_left' (by rw [List.length_take]; omega)) (by simp only [List.length_append, List.length_take, List.length_replicate]; omega)) | (simp only [hi1]; exact ins_shift (by omega) rfl))
 have hlen0 : (s.length + 1) = (insL s i.toNat x).length := by first | (rw [← hcan0]; done) | (rw [← hcan0]; first | rfl | (simp; done) | (simp only [List.length_append, List.length_take, List.length_drop, List.length_set, List.length_replicate, List.length_cons, List.length_nil, List.length_map, toS_length, toI_length]; omega) | (simp; omega))
 exact ⟨s_a, s_c, Bx8, (by rw [← hlen0]; first | rfl | rfl), ((hw1.perm (List.Perm.refl _)).tr_out.sub (by first | exact List.sublist_append_left _ _ | exact List.nil_sublist _)), (hcan0 ▸ hox8)⟩

theorem ruDelete_ok (w : World) {s_a : Option Addr} {s_c : Nat} {s_B : Heap} {s : List Rule} {i : Int} {j : Int} (o_s : OwnB eRule 5 34 s_a s_c s_B s) (b_s : ∀ p ∈ s_B, w.heap[p.1]? = some p.2) (n_s : s.length ≤ 1000000) (hi : 0 ≤ i ∧ i < j ∧ j ≤ s.length) : Calls Tryz.prog 173 (List.toArray [(vs s_a s.length s_c), (vi i), (vi j)]) w fun e w2 => ∃ a1 : Option Addr, ∃ c1 : Nat, ∃ B1 : Heap, e = .returned (vs a1 ((delL s i.toNat j.toNat).length) c1) ∧ Tr w w2 s_B B1 ∧ OwnB eRule 5 34 a1 c1 B1 (delL s i.toNat j.toNat) := by
 have hF := Is.refl (delL s i.toNat j.toNat)
 have hiN : i.toNat < j.toNat ∧ j.toNat ≤ s.length := by omega
 have hMk : ∀ k ∈ keys s_B, k < w.heap.size := fun k hk => by
  obtain ⟨o, ho⟩ := keys_mem hk
  exact (Array.getElem?_eq_some_iff.1 (b_s _ ho)).1
 have hle0 := o_s.le'
 refine enterM (keys s_B) (s_B ++ []) (by simpa using b_s) (fun p hp => mem_keys (by simpa using hp)) (by simpa using o_s.nd) Tryz.func173 Tryz.ntmps173 (h := ?_)
 refine Z2 ?_
 refine Z107 ?_
 refine Z27 ?_
 refine Z481 ?_
 refine Z501 ?_
 have hle1 := o_s.le'
 refine JL_q (q_sliceLoHiMax (n := s.length) (c := s_c) (i := i) (i2 := j) (i3 := ((s.length : Nat) : Int)) i.toNat j.toNat s.length (j.toNat - i.toNat) Tryz.runUnderlying49 Tryz.sizeOf34 (hlo := by first | exact ix) (hhi := by first | exact ix) (hmx := by first | exact ix) (hm := rfl)) (k := ?_)
 refine Z72 ?_
 refine Z39 ?_
 refine Z281 ?_
 refine J_dec rfl (fun hq2 => ?_) (fun hq2 => ?_)
 ·exfalso
  omega
 refine Z428 ?_
 refine Z501 ?_
 refine Z435 ?_
 refine Z62 ?_
 have hl3 : (s.take i.toNat).length = i.toNat := by rw [List.length_take]; omega
 have hl3c := o_s.le'
 refine JD_q (q_sliceHi' (s.take i.toNat).length Tryz.runUnderlying49 (fun w => ⟨_, Tryz.sizeOf34 w⟩) (hm := by omega) (hi := by omega)) (k := ?_)
 refine Z62 ?_
 have hle4 := o_s.le'
 have hld5 : (s.drop j.toNat).length = s.length - j.toNat := List.length_drop
 refine JD_q (q_sliceLo (n := s.length) (c := s_c) (i := j) j.toNat (s.drop j.toNat).length Tryz.runUnderlying49 Tryz.sizeOf34 (hlo := by first | exact ix) (hnc := by first | omega | exact Nat.le_refl _) (hm := by first | rfl | (simp; done) | ((simp only [List.length_append, List.length_take, List.length_drop, List.length_set, List.length_replicate, List.length_cons, List.length_nil, List.length_map, toS_length, toI_length]) <;> omega))) (k := ?_)
 refine JD_appendIn (n := (s.take i.toNat).length) (m := (s.drop j.toNat).length) ((s.take i.toNat) ++ (s.drop j.toNat)) rfl TY_34 Tryz.underlying49 eRule_ok (o_s.take eRule_ok i.toNat) q0 (SlJ.off (o_s.slj eRule_ok (by intro p hp; first | exact hp | (simp [hp]; done))) j.toNat s_c (by first | omega | exact Nat.le_refl _)) (by first | exact lb) (k := fun Bx2 hox2 => ?_)
 refine Z124 ?_
 refine JL_eqL (nA nE) ?_
 refine Z0 ?_
 refine Z39 ?_
 refine Z501 ?_
 refine Z481 ?_
 have hle6 := hox2.le'
 refine JL_q (q_sliceLoHi (n := ((s.take i.toNat) ++ (s.drop j.toNat)).length) (c := s_c) (i := (((((s.take i.toNat) ++ (s.drop j.toNat)).length) : Nat) : Int)) (i2 := ((s.length : Nat) : Int)) (((s.take i.toNat) ++ (s.drop j.toNat)).length) s.length (s.length - (((s.take i.toNat) ++ (s.drop j.toNat)).length)) Tryz.runUnderlying49 Tryz.sizeOf34 (hlo := by first | exact ix) (hhi := by first | exact ix) (hm := rfl)) (k := ?_)
 refine JL_clearOff (dn := (s.length - (((s.take i.toNat) ++ (s.drop j.toNat)).length))) (x0 := default) (((s.take i.toNat) ++ (s.drop j.toNat)).length) TY_34 Tryz.zeroValue34 rfl Tryz.underlying49 eRule_ok hox2 q0 (by first | exact lb) (by first | exact lb) (kk := fun Bx3 hox3 => ?_)
 refine Z237 ?_
 refine Z6 ?_
 refine JX_ret Tryz.results173 (Res.tmp rfl Res.nil) (fun w1 hw1 => ?_)
 have hcan0 : ((s.take i.toNat) ++ (s.drop j.toNat)) = (delL s i.toNat j.toNat) := by rfl
 have hlen0 : ((s.take i.toNat) ++ (s.drop j.toNat)).length = (delL s i.toNat j.toNat).length := by first | (rw [← hcan0]; done) | (rw [← hcan0]; first | rfl | (simp; done) | (simp only [List.length_append, List.length_take, List.length_drop, List.length_set, List.length_replicate, List.length_cons, List.length_nil, List.length_map, toS_length, toI_length]; omega) | (simp; omega))
 exact ⟨s_a, s_c, Bx3, (by rw [← hlen0]; first | rfl | rfl), ((hw1.perm (List.Perm.refl _)).tr_out.sub (by first | exact List.sublist_append_left _ _ | exact List.nil_sublist _)), (hcan0 ▸ hox3)⟩

theorem aclOne_ok (w : World) {r : Rule} : Val Tryz.prog 132 [(Value.agg [(Value.bool r.allow), (vi r.pfx.addr), (vi r.pfx.bits), (vi r.prt.lo), (vi r.prt.hi)].toArray)] w (Value.bool (aclOne r)) := by
 have hF := Is.refl (aclOne r)
 refine enter Tryz.func132 Tryz.ntmps132 (h := ?_)
 refine Z2 ?_
 refine JL_a noMk (a_box (l := [_, _, _, _, _])) (k := fun r1 hr1 => ?_)
 refine Z91 ?_
 refine JL_q (q_fld FO_189_0) (k := ?_)
 refine JL_q (q_fld FO_34_1) (k := ?_)
 refine JL_q (q_loadA Tryz.isAgg30 Tryz.sizeOf30) (k := ?_)
 refine JL_v (c_callA Tryz.call153) (fun w1 hw1 => aRight_ok w1 (p := r.pfx)) (k := ?_)
 refine Z481 ?_
 refine JL_bool 7 rfl (fun hq1 => ?_) (fun hq1 => ?_)
 rotate_left
 ·refine JL_skips 4 rfl ?_
  refine Z26 ?_
  refine JX_ret Tryz.results132 (Res.tmp rfl Res.nil) (fun w1 hw1 => ?_)
  exact ⟨(by rw [(hF.f hq1).eq] <;> first | rfl | (simp only [List.length_set] <;> rfl)), hw1.ext_out⟩
 have hfhq1 := aRight_t hq1
 refine JL_qg (q_fld FO_189_0) (k := ?_)
 refine JL_qg (q_fld FO_34_2) (k := ?_)
 refine JL_qg (q_loadA Tryz.isAgg32 Tryz.sizeOf32) (k := ?_)
 refine JL_vg (c_callA Tryz.call154) (fun w1 hw1 => pRight_ok w1 (p := r.prt)) (k := ?_)
 refine Z79 ?_
 refine JX_ret Tryz.results132 (Res.tmp rfl Res.nil) (fun w1 hw1 => ?_)
 exact ⟨(by rw [(hF.t hq1).eq] <;> first | rfl | (simp only [List.length_set] <;> rfl)), hw1.ext_out⟩

theorem aclRight_ok (w : World) {l_a : Option Addr} {l_c : Nat} {l : List Rule} (h_l : Sl w eRule 5 l_a l) (n_l : l.length ≤ 1000) : Val Tryz.prog 93 [(vs l_a l.length l_c)] w (Value.bool (aclRight l)) := by
 have hF := Is.refl (aclRight l)
 refine enter Tryz.func93 Tryz.ntmps93 (h := ?_)
 refine Z2 ?_
 refine Z107 ?_
 refine Z501 ?_
 refine JL_q q_leq (k := ?_)
 refine Z481 ?_
 refine JL_dec 6 rfl (fun hq1 => ?_) (fun hq1 => ?_)
 rotate_left
 ·refine JL_skips 3 rfl ?_
  refine Z26 ?_
  refine JX_ret Tryz.results93 (Res.tmp rfl Res.nil) (fun w1 hw1 => ?_)
  exact ⟨(by rw [(hF.neg hq1).eq] <;> first | rfl | (simp only [List.length_set] <;> rfl)), hw1.ext_out⟩
 refine Z489 ?_
 refine JL_ag noMk (a_bslice (l := [_]) Tryz.runUnderlying212 Tryz.sizeOf187 Tryz.zeroValue187) (k := fun r1 hr1 => ?_)
 refine JL_inlg (args := [_, _]) (c_callA Tryz.call131) Tryz.func131 Tryz.ntmps131 ?_
 refine Z216 ?_
 refine Z501 ?_
 refine Z121 ?_
 refine J_loop2 (σ1 := Nat) (σ2 := Nat) (fun n_2 x_1 => ((r1, oc [(Value.func (.func 132) [].toArray [].toArray)] 187) :: [])) (fun n_2 x_1 => [(1, (vs (some ⟨r1, 0, none⟩) 1 1)), (4, (Value.bool false)), (9, (vs l_a l.length l_c)), (10, (vi ((l.length : Nat) : Int))), (11, (vi ((x_1 : Nat) : Int)))]) (fun n_2 x_1 => l.length - x_1 < n_2 ∧ Is (aclRight_l0 l (l.length + 1) 0) (aclRight_l0 l n_2 x_1) ∧ x_1 ≤ l.length) (fun n_2 x_1 => n_2) (l.length + 1) 0 ?_ se (List.Perm.refl _) ?_
 ·exact ⟨Nat.lt_succ_self _, Is.refl _, (by first | omega | rfl | (simp; done))⟩
 ·rintro (_ | n_2) x_1 ⟨hm4, hF3, hi5⟩
  ·omega
  refine Z38 ?_
  refine J_dec rfl (fun hq2 => ?_) (fun hq2 => ?_)
  rotate_left
  ·refine J_exit ?_
   refine Z272 ?_
   refine JX_retI Tryz.results131 (Res.tmp rfl Res.nil) ?_
   refine Z79 ?_
   refine JX_ret Tryz.results93 (Res.tmp rfl Res.nil) (fun w1 hw1 => ?_)
   exact ⟨(by rw [((hF.pos hq1).ok1 (hF3.neg hq2)).eq] <;> first | rfl | (simp only [List.length_set] <;> rfl)), hw1.ext_out⟩
  refine Z14 ?_
  refine Z61 ?_
  refine JL_q (q_idx (n := l.length) Tryz.runUnderlying49 Tryz.sizeOf34 x_1 (SlJ.of_base h_l) (gD (by first | exact ix)) (by first | rfl | simp)) (k := ?_)
  refine JL_q (q_loadEA Tryz.isAgg34 Tryz.sizeOf34 x_1 (SlJ.of_base h_l) (gD (by first | exact ix))) (k := ?_)
  refine JL_a noMk (a_alloc (l := [_, _, _, _, _]) Tryz.zeroValue34) (k := fun r2 hr2 => ?_)
  refine JL_s (w_store (l' := [_, _, _, _, _]) Tryz.sizeOf34) (k := ?_)
  refine Z237 ?_
  refine JL_q (q_lenS Tryz.runUnderlying212) (k := ?_)
  refine Z283 ?_
  refine Z69 ?_
  refine JL_q (q_idxO Tryz.runUnderlying212 Tryz.sizeOf187 0) (k := ?_)
  refine JL_q (q_load Tryz.isAgg187) (k := ?_)
  refine Z107 ?_
  refine JL_q (q_loadA Tryz.isAgg34 Tryz.sizeOf34) (k := ?_)
  refine JL_q (q_build (cs := [_, _, _, _, _]) Tryz.zeroValue189 PL_189) (k := ?_)
  refine JL_v (c_callA Tryz.call132) (fun w1 hw1 => aclOne_ok w1 (r := (l.getD x_1 default))) (k := ?_)
  refine Z189 ?_
  refine J_cond rfl (fun hq3 => ?_) (fun hq3 => ?_)
  ·refine J_seq ?_
   refine Z486 ?_
   refine Z6 ?_
   refine Z48 ?_
   refine JX_block_ret ?_
   refine Z82 ?_
   refine JX_retI Tryz.results131 (Res.tmp rfl Res.nil) ?_
   refine Z79 ?_
   refine JX_ret Tryz.results93 (Res.tmp rfl Res.nil) (fun w1 hw1 => ?_)
   exact ⟨(by rw [((hF.pos hq1).er1 ((hF3.pos hq2).t hq3)).eq] <;> first | rfl | (simp only [List.length_set] <;> rfl)), hw1.ext_out⟩
  refine Z250 ?_
  refine Z55 ?_
  refine Z40 ?_
  refine JX_permL _ (qa q0) ?_
  refine JX_subL _ (List.Sublist.cons_cons _ (List.nil_sublist _)) ?_
  exact JX_inv2 n_2 (x_1 + 1) ⟨by omega, ((hF3.pos hq2).f hq3), (by omega)⟩ (Nat.lt_succ_self _) se (List.Perm.refl _)

theorem aclInsert_ok (w : World) {l_a : Option Addr} {l_c : Nat} {ea0 : Addr} {ea1 : Addr} {ea2 : Addr} {ea3 : Addr} {l : List Rule} {at_ : Int} {r : Rule} (h_l : Sl w eRule 5 l_a l) (n_l : l.length ≤ 1000) (hG : Gl w) (hE : Er w ea0 ea1 ea2 ea3) : Calls Tryz.prog 161 (List.toArray [(vs l_a l.length l_c), (vi at_), (Value.agg [(Value.bool r.allow), (vi r.pfx.addr), (vi r.pfx.bits), (vi r.prt.lo), (vi r.prt.hi)].toArray)]) w fun e w2 => ∃ a1 : Option Addr, ∃ c1 : Nat, ∃ B1 : Heap, e = .returned (Value.tuple [(vs a1 ((aclInsert l at_ r).1.length) c1), (vi ((aclInsert l at_ r).2))].toArray) ∧ Fresh w w2 B1 ∧ OwnB eRule 5 34 a1 c1 B1 (aclInsert l at_ r).1 ∧ (aclInsert l at_ r).1.length ≤ 1000 := by
 have hF := Is.refl (aclInsert l at_ r)
 refine enter Tryz.func161 Tryz.ntmps161 (h := ?_)
 refine Z2 ?_
 refine JL_a noMk (a_box (l := [_, _, _, _, _])) (k := fun r1 hr1 => ?_)
 refine Z488 ?_
 refine Z453 ?_
 refine Z424 ?_
 refine J_cond rfl (fun hq1 => ?_) (fun hq1 => ?_)
 ·refine J_seq ?_
  refine Z486 ?_
  obtain ⟨Thgl2, fhgl2, hgl2⟩ := hE.v0
  refine JL_q (q_loadB Tryz.isAgg78 hgl2) (k := ?_)
  refine Z177 ?_
  refine Z441 ?_
  obtain ⟨Thgl3, fhgl3, hgl3⟩ := hE.v0
  refine Z393 ?_
  refine Z417 ?_
  refine Z178 ?_
  refine Z8 ?_
  refine Z183 ?_
  refine Z292 ?_
  refine JX_ret Tryz.results161 (Res.tmp rfl (Res.tmp rfl Res.nil)) (fun w1 hw1 => ?_)
  exact ⟨none, 0, [], (by rw [(hF.t hq1).eq] <;> first | rfl | (simp only [List.length_set] <;> rfl)), (hw1.fresh_out.sub (List.nil_sublist _)), (by rw [(hF.t hq1).eq]; exact OwnB.nil), (by rw [(hF.t hq1).eq]; first | omega | (simp; done) | (rw [insL_length (by omega)]; omega))⟩
 refine Z2 ?_
 refine JL_q (q_loadA Tryz.isAgg34 Tryz.sizeOf34) (k := ?_)
 refine JL_q (q_build (cs := [_, _, _, _, _]) Tryz.zeroValue189 PL_189) (k := ?_)
 refine JL_v (c_callA Tryz.call132) (fun w1 hw1 => aclOne_ok w1 (r := r)) (k := ?_)
 refine Z424 ?_
 refine J_cond rfl (fun hq4 => ?_) (fun hq4 => ?_)
 ·refine J_seq ?_
  refine Z486 ?_
  obtain ⟨Thgl5, fhgl5, hgl5⟩ := hE.v1
  refine JL_q (q_loadB Tryz.isAgg78 hgl5) (k := ?_)
  refine Z177 ?_
  refine Z441 ?_
  obtain ⟨Thgl6, fhgl6, hgl6⟩ := hE.v0
  refine JL_q (q_loadB Tryz.isAgg78 hgl6) (k := ?_)
  refine JL_v (args := [(Value.iface 240 (.pointer (some ea1))), (Value.iface 240 (.pointer (some ea0)))]) (c_callA Tryz.call176) (fun w1 hw1 => is_other_v w1 hE.n1_0 (hE.ext hw1.ext_out).b1 (hE.ext hw1.ext_out).b0) (k := ?_)
  refine Z1 ?_
  refine Z351 ?_
  obtain ⟨Thgl7, fhgl7, hgl7⟩ := hE.v1
  refine JL_q (q_loadB Tryz.isAgg78 hgl7) (k := ?_)
  refine JL_v (args := [(Value.iface 240 (.pointer (some ea1))), (Value.iface 240 (.pointer (some ea1)))]) (c_callA Tryz.call176) (fun w1 hw1 => is_same_v w1) (k := ?_)
  refine Z417 ?_
  refine Z178 ?_
  refine Z8 ?_
  refine Z183 ?_
  refine Z292 ?_
  refine JX_ret Tryz.results161 (Res.tmp rfl (Res.tmp rfl Res.nil)) (fun w1 hw1 => ?_)
  exact ⟨none, 0, [], (by rw [((hF.f hq1).t hq4).eq] <;> first | rfl | (simp only [List.length_set] <;> rfl)), (hw1.fresh_out.sub (List.nil_sublist _)), (by rw [((hF.f hq1).t hq4).eq]; exact OwnB.nil), (by rw [((hF.f hq1).t hq4).eq]; first | omega | (simp; done) | (rw [insL_length (by omega)]; omega))⟩
 refine Z4 ?_
 refine Z209 ?_
 refine JL_dec 24 rfl (fun hq8 => ?_) (fun hq8 => ?_)
 ·refine JL_skips 4 rfl ?_
  refine Z241 ?_
  refine Z442 ?_
  refine Z2 ?_
  obtain ⟨Thgl9, fhgl9, hgl9⟩ := hE.v2
  refine JL_q (q_loadB Tryz.isAgg78 hgl9) (k := ?_)
  refine Z177 ?_
  refine Z441 ?_
  obtain ⟨Thgl10, fhgl10, hgl10⟩ := hE.v0
  refine JL_q (q_loadB Tryz.isAgg78 hgl10) (k := ?_)
  refine Z119 ?_
  refine Z351 ?_
  obtain ⟨Thgl11, fhgl11, hgl11⟩ := hE.v1
  refine JL_q (q_loadB Tryz.isAgg78 hgl11) (k := ?_)
  refine Z120 ?_
  refine Z351 ?_
  obtain ⟨Thgl12, fhgl12, hgl12⟩ := hE.v2
  refine JL_q (q_loadB Tryz.isAgg78 hgl12) (k := ?_)
  refine Z151 ?_
  refine J_true rfl ?_
  refine Z178 ?_
  refine Z8 ?_
  refine Z183 ?_
  refine Z292 ?_
  refine JX_ret Tryz.results161 (Res.tmp rfl (Res.tmp rfl Res.nil)) (fun w1 hw1 => ?_)
  exact ⟨none, 0, [], (by rw [(((hF.f hq1).f hq4).pos hq8).eq] <;> first | rfl | (simp only [List.length_set] <;> rfl)), (hw1.fresh_out.sub (List.nil_sublist _)), (by rw [(((hF.f hq1).f hq4).pos hq8).eq]; exact OwnB.nil), (by rw [(((hF.f hq1).f hq4).pos hq8).eq]; first | omega | (simp; done) | (rw [insL_length (by omega)]; omega))⟩
 refine Z141 ?_
 refine JL_qg (q_lenS Tryz.runUnderlying49) (k := ?_)
 refine JL_qg q_gtr (k := ?_)
 refine Z5 ?_
 refine JL_dec 30 rfl (fun hq13 => ?_) (fun hq13 => ?_)
 ·refine JL_skips 3 rfl ?_
  refine Z442 ?_
  refine Z2 ?_
  obtain ⟨Thgl14, fhgl14, hgl14⟩ := hE.v2
  refine JL_q (q_loadB Tryz.isAgg78 hgl14) (k := ?_)
  refine Z177 ?_
  refine Z441 ?_
  obtain ⟨Thgl15, fhgl15, hgl15⟩ := hE.v0
  refine JL_q (q_loadB Tryz.isAgg78 hgl15) (k := ?_)
  refine Z119 ?_
  refine Z351 ?_
  obtain ⟨Thgl16, fhgl16, hgl16⟩ := hE.v1
  refine JL_q (q_loadB Tryz.isAgg78 hgl16) (k := ?_)
  refine Z120 ?_
  refine Z351 ?_
  obtain ⟨Thgl17, fhgl17, hgl17⟩ := hE.v2
  refine JL_q (q_loadB Tryz.isAgg78 hgl17) (k := ?_)
  refine Z151 ?_
  refine J_true rfl ?_
  refine Z178 ?_
  refine Z8 ?_
  refine Z183 ?_
  refine Z292 ?_
  refine JX_ret Tryz.results161 (Res.tmp rfl (Res.tmp rfl Res.nil)) (fun w1 hw1 => ?_)
  exact ⟨none, 0, [], (by rw [((((hF.f hq1).f hq4).neg hq8).pos hq13).eq] <;> first | rfl | (simp only [List.length_set] <;> rfl)), (hw1.fresh_out.sub (List.nil_sublist _)), (by rw [((((hF.f hq1).f hq4).neg hq8).pos hq13).eq]; exact OwnB.nil), (by rw [((((hF.f hq1).f hq4).neg hq8).pos hq13).eq]; first | omega | (simp; done) | (rw [insL_length (by omega)]; omega))⟩
 refine Z489 ?_
 refine JL_qg (q_lenS Tryz.runUnderlying49) (k := ?_)
 refine JL_qg q_geq (k := ?_)
 refine JL_q q_pickF (k := ?_)
 refine Z1 ?_
 refine J_dec rfl (fun hq18 => ?_) (fun hq18 => ?_)
 rotate_left
 ·refine J_skip ?_
  refine Z17 ?_
  refine J_seq ?_
  refine J_any (V := []) mixed 8 (by kernel_rfl) ?_
  refine JG_q 0 rfl (by kernel_rfl) q_move (k := ?_)
  refine JG_q 2 rfl (by kernel_rfl) q_move (k := ?_)
  refine JG_q 3 rfl (by kernel_rfl) (q_loadA Tryz.isAgg34 Tryz.sizeOf34) (k := ?_)
  refine JG_br [1, 4] (by kernel_rfl) rfl (List.forall_mem_cons.2 ⟨?_, (List.forall_mem_cons.2 ⟨?_, nofun⟩)⟩)
  ·skip
   refine Z503 ?_
   rintro w1_41 e1_41 w2_41 hw1_41 ⟨a1_41, c1_41, B1_41, he_41, hf_41, ho1_41⟩
   refine ⟨_, _, _, he_41, hf_41, rfl, ?_⟩
   refine JG_br [4] (by kernel_rfl) rfl (List.forall_mem_cons.2 ⟨?_, nofun⟩)
   ·skip
    refine JO_a rfl noMk (a_bslice (l := [_, _, _, _, _]) Tryz.runUnderlying49 Tryz.sizeOf34 Tryz.zeroValue34) (k := fun r102 hr102 => ?_)
    refine JG_br [5] (by kernel_rfl) rfl (List.forall_mem_cons.2 ⟨?_, nofun⟩)
    ·skip
     refine Z504 ?_
     rintro w1_121 e1_121 w2_121 hw1_121 ⟨a1_121, c1_121, B1_121, he_121, hf_121, ho1_121⟩
     refine ⟨_, (B1_121 ++ []), he_121, by simpa using ((hw1_121.perm (List.Perm.of_eq (by simp only [List.append_assoc, List.nil_append]))).tr hf_121), ?_⟩
     refine JG_q 6 rfl (by kernel_rfl) q_assign (k := ?_)
     refine JG_q 7 rfl (by kernel_rfl) q_assign (k := ?_)
     refine Z505 ?_
     refine JL_eqL (nA nE) ?_
     refine Z44 ?_
     refine JX_ret Tryz.results161 (Res.tmp rfl (Res.tmp rfl Res.nil)) (fun w1 hw1 => ?_)
     exact ⟨a1_121, c1_121, B1_121, (by rw [(((((hF.f hq1).f hq4).neg hq8).neg hq13).neg hq18).eq] <;> first | rfl | (simp only [List.length_set] <;> rfl)), (fresh_segs (L := B1_121) (hw1.perm (List.Perm.refl _)) rfl.symm), (by rw [(((((hF.f hq1).f hq4).neg hq8).neg hq13).neg hq18).eq]; exact ho1_121), (by rw [(((((hF.f hq1).f hq4).neg hq8).neg hq13).neg hq18).eq]; first | omega | (simp; done) | (rw [insL_length (by omega)]; omega))⟩
  ·skip
   refine JO_a rfl noMk (a_bslice (l := [_, _, _, _, _]) Tryz.runUnderlying49 Tryz.sizeOf34 Tryz.zeroValue34) (k := fun r102 hr102 => ?_)
   refine JG_br [1] (by kernel_rfl) rfl (List.forall_mem_cons.2 ⟨?_, nofun⟩)
   ·skip
    refine Z503 ?_
    rintro w1_41 e1_41 w2_41 hw1_41 ⟨a1_41, c1_41, B1_41, he_41, hf_41, ho1_41⟩
    refine ⟨_, _, _, he_41, hf_41, rfl, ?_⟩
    refine JG_br [5] (by kernel_rfl) rfl (List.forall_mem_cons.2 ⟨?_, nofun⟩)
    ·skip
     refine Z504 ?_
     rintro w1_121 e1_121 w2_121 hw1_121 ⟨a1_121, c1_121, B1_121, he_121, hf_121, ho1_121⟩
     refine ⟨_, (B1_121 ++ []), he_121, by simpa using ((hw1_121.perm (List.Perm.of_eq (by simp only [List.append_assoc, List.nil_append]))).tr hf_121), ?_⟩
     refine JG_q 6 rfl (by kernel_rfl) q_assign (k := ?_)
     refine JG_q 7 rfl (by kernel_rfl) q_assign (k := ?_)
     refine Z505 ?_
     refine JL_eqL (nA nE) ?_
     refine Z44 ?_
     refine JX_ret Tryz.results161 (Res.tmp rfl (Res.tmp rfl Res.nil)) (fun w1 hw1 => ?_)
     exact ⟨a1_121, c1_121, B1_121, (by rw [(((((hF.f hq1).f hq4).neg hq8).neg hq13).neg hq18).eq] <;> first | rfl | (simp only [List.length_set] <;> rfl)), (fresh_segs (L := B1_121) (hw1.perm (List.Perm.refl _)) rfl.symm), (by rw [(((((hF.f hq1).f hq4).neg hq8).neg hq13).neg hq18).eq]; exact ho1_121), (by rw [(((((hF.f hq1).f hq4).neg hq8).neg hq13).neg hq18).eq]; first | omega | (simp; done) | (rw [insL_length (by omega)]; omega))⟩
 refine Z2 ?_
 obtain ⟨Thgl19, fhgl19, hgl19⟩ := hE.v2
 refine JL_q (q_loadB Tryz.isAgg78 hgl19) (k := ?_)
 refine Z177 ?_
 refine Z441 ?_
 obtain ⟨Thgl20, fhgl20, hgl20⟩ := hE.v0
 refine JL_q (q_loadB Tryz.isAgg78 hgl20) (k := ?_)
 refine Z119 ?_
 refine Z351 ?_
 obtain ⟨Thgl21, fhgl21, hgl21⟩ := hE.v1
 refine JL_q (q_loadB Tryz.isAgg78 hgl21) (k := ?_)
 refine Z120 ?_
 refine Z351 ?_
 obtain ⟨Thgl22, fhgl22, hgl22⟩ := hE.v2
 refine JL_q (q_loadB Tryz.isAgg78 hgl22) (k := ?_)
 refine Z151 ?_
 refine J_true rfl ?_
 refine Z178 ?_
 refine Z8 ?_
 refine Z183 ?_
 refine Z292 ?_
 refine JX_ret Tryz.results161 (Res.tmp rfl (Res.tmp rfl Res.nil)) (fun w1 hw1 => ?_)
 exact ⟨none, 0, [], (by rw [(((((hF.f hq1).f hq4).neg hq8).neg hq13).pos hq18).eq] <;> first | rfl | (simp only [List.length_set] <;> rfl)), (hw1.fresh_out.sub (List.nil_sublist _)), (by rw [(((((hF.f hq1).f hq4).neg hq8).neg hq13).pos hq18).eq]; exact OwnB.nil), (by rw [(((((hF.f hq1).f hq4).neg hq8).neg hq13).pos hq18).eq]; first | omega | (simp; done) | (rw [insL_length (by omega)]; omega))⟩

theorem aclRemove_ok (w : World) {l_a : Option Addr} {l_c : Nat} {ea0 : Addr} {ea1 : Addr} {ea2 : Addr} {ea3 : Addr} {l : List Rule} {at_ : Int} (h_l : Sl w eRule 5 l_a l) (n_l : l.length ≤ 1000) (hG : Gl w) (hE : Er w ea0 ea1 ea2 ea3) : Calls Tryz.prog 162 (List.toArray [(vs l_a l.length l_c), (vi at_)]) w fun e w2 => ∃ a1 : Option Addr, ∃ c1 : Nat, ∃ B1 : Heap, e = .returned (Value.tuple [(vs a1 ((aclRemove l at_).1.length) c1), (vi ((aclRemove l at_).2))].toArray) ∧ Fresh w w2 B1 ∧ OwnB eRule 5 34 a1 c1 B1 (aclRemove l at_).1 ∧ (aclRemove l at_).1.length ≤ 1000 := by
 have hF := Is.refl (aclRemove l at_)
 refine enter Tryz.func162 Tryz.ntmps162 (h := ?_)
 refine Z2 ?_
 refine Z488 ?_
 refine Z453 ?_
 refine Z424 ?_
 refine J_cond rfl (fun hq1 => ?_) (fun hq1 => ?_)
 ·refine J_seq ?_
  refine Z486 ?_
  obtain ⟨Thgl2, fhgl2, hgl2⟩ := hE.v0
  refine JL_q (q_loadB Tryz.isAgg78 hgl2) (k := ?_)
  refine Z177 ?_
  refine Z441 ?_
  obtain ⟨Thgl3, fhgl3, hgl3⟩ := hE.v0
  refine Z393 ?_
  refine Z417 ?_
  refine Z178 ?_
  refine Z8 ?_
  refine Z183 ?_
  refine Z292 ?_
  refine JX_ret Tryz.results162 (Res.tmp rfl (Res.tmp rfl Res.nil)) (fun w1 hw1 => ?_)
  exact ⟨none, 0, [], (by rw [(hF.t hq1).eq] <;> first | rfl | (simp only [List.length_set] <;> rfl)), (hw1.fresh_out.sub (List.nil_sublist _)), (by rw [(hF.t hq1).eq]; exact OwnB.nil), (by rw [(hF.t hq1).eq]; first | omega | (simp; done) | (rw [delL_length (by omega) (by omega)]; omega))⟩
 refine Z4 ?_
 refine Z209 ?_
 refine JL_dec 15 rfl (fun hq4 => ?_) (fun hq4 => ?_)
 ·refine JL_skips 4 rfl ?_
  refine Z442 ?_
  refine Z2 ?_
  obtain ⟨Thgl5, fhgl5, hgl5⟩ := hE.v2
  refine JL_q (q_loadB Tryz.isAgg78 hgl5) (k := ?_)
  refine Z177 ?_
  refine Z441 ?_
  obtain ⟨Thgl6, fhgl6, hgl6⟩ := hE.v0
  refine JL_q (q_loadB Tryz.isAgg78 hgl6) (k := ?_)
  refine Z119 ?_
  refine Z351 ?_
  obtain ⟨Thgl7, fhgl7, hgl7⟩ := hE.v1
  refine JL_q (q_loadB Tryz.isAgg78 hgl7) (k := ?_)
  refine Z120 ?_
  refine Z351 ?_
  obtain ⟨Thgl8, fhgl8, hgl8⟩ := hE.v2
  refine JL_q (q_loadB Tryz.isAgg78 hgl8) (k := ?_)
  refine Z151 ?_
  refine J_true rfl ?_
  refine Z178 ?_
  refine Z8 ?_
  refine Z183 ?_
  refine Z292 ?_
  refine JX_ret Tryz.results162 (Res.tmp rfl (Res.tmp rfl Res.nil)) (fun w1 hw1 => ?_)
  exact ⟨none, 0, [], (by rw [((hF.f hq1).pos hq4).eq] <;> first | rfl | (simp only [List.length_set] <;> rfl)), (hw1.fresh_out.sub (List.nil_sublist _)), (by rw [((hF.f hq1).pos hq4).eq]; exact OwnB.nil), (by rw [((hF.f hq1).pos hq4).eq]; first | omega | (simp; done) | (rw [delL_length (by omega) (by omega)]; omega))⟩
 refine Z141 ?_
 refine JL_qg (q_lenS Tryz.runUnderlying49) (k := ?_)
 refine JL_qg q_geq (k := ?_)
 refine JL_q q_pickF (k := ?_)
 refine Z1 ?_
 refine J_dec rfl (fun hq9 => ?_) (fun hq9 => ?_)
 rotate_left
 ·refine J_skip ?_
  refine Z17 ?_
  refine Z4 ?_
  refine JL_p (c_callA Tryz.call82) (fun w1 hw1 => ruClone_ok w1 (s := l) (h_s := (SlJ.of_base h_l) w1 hw1) (n_s := by first | exact lb | decide)) (k := ?_)
  rintro w1_1 e1_1 w2_1 hw1_1 ⟨a1_1, c1_1, B1_1, he_1, hf_1, ho1_1⟩
  refine ⟨_, _, he_1, hw1_1.fresh hf_1, ?_⟩
  refine Z27 ?_
  refine Z502 ?_
  refine JL_p (c_callA Tryz.call173) (fun w1 hw1 => ruDelete_ok w1 (s := l) (i := at_) (j := (at_ + 1)) (o_s := ho1_1) (b_s := fun p hp => hw1.own p (by first | exact hp | (simp [hp]; done))) (n_s := by first | exact lb | decide) (hi := by first | exact lb | decide)) (k := ?_)
  rintro w1_2 e1_2 w2_2 hw1_2 ⟨a1_2, c1_2, B1_2, he_2, hf_2, ho1_2⟩
  refine ⟨_, _, he_2, (hw1_2.perm q0).tr hf_2, ?_⟩
  refine Z488 ?_
  refine Z6 ?_
  refine JX_ret Tryz.results162 (Res.tmp rfl (Res.tmp rfl Res.nil)) (fun w1 hw1 => ?_)
  exact ⟨a1_2, c1_2, B1_2, (by rw [(((hF.f hq1).neg hq4).neg hq9).eq] <;> first | rfl | (simp only [List.length_set] <;> rfl)), (fresh_segs (L := B1_2) (hw1.perm (List.Perm.refl _)) rfl.symm), (by rw [(((hF.f hq1).neg hq4).neg hq9).eq]; exact ho1_2), (by rw [(((hF.f hq1).neg hq4).neg hq9).eq]; first | omega | (simp; done) | (rw [delL_length (by omega) (by omega)]; omega))⟩
 refine Z2 ?_
 obtain ⟨Thgl10, fhgl10, hgl10⟩ := hE.v2
 refine JL_q (q_loadB Tryz.isAgg78 hgl10) (k := ?_)
 refine Z177 ?_
 refine Z441 ?_
 obtain ⟨Thgl11, fhgl11, hgl11⟩ := hE.v0
 refine JL_q (q_loadB Tryz.isAgg78 hgl11) (k := ?_)
 refine Z119 ?_
 refine Z351 ?_
 obtain ⟨Thgl12, fhgl12, hgl12⟩ := hE.v1
 refine JL_q (q_loadB Tryz.isAgg78 hgl12) (k := ?_)
 refine Z120 ?_
 refine Z351 ?_
 obtain ⟨Thgl13, fhgl13, hgl13⟩ := hE.v2
 refine JL_q (q_loadB Tryz.isAgg78 hgl13) (k := ?_)
 refine Z151 ?_
 refine J_true rfl ?_
 refine Z178 ?_
 refine Z8 ?_
 refine Z183 ?_
 refine Z292 ?_
 refine JX_ret Tryz.results162 (Res.tmp rfl (Res.tmp rfl Res.nil)) (fun w1 hw1 => ?_)
 exact ⟨none, 0, [], (by rw [(((hF.f hq1).neg hq4).pos hq9).eq] <;> first | rfl | (simp only [List.length_set] <;> rfl)), (hw1.fresh_out.sub (List.nil_sublist _)), (by rw [(((hF.f hq1).neg hq4).pos hq9).eq]; exact OwnB.nil), (by rw [(((hF.f hq1).neg hq4).pos hq9).eq]; first | omega | (simp; done) | (rw [delL_length (by omega) (by omega)]; omega))⟩

end Go.Proofs.YtopjaeoklkpcpaaGreatDoor.Jd

namespace Go.Proofs.YtopjaeoklkpcpaaGreatDoor.Jd
open Go.Proofs
open Go.RowKit (Below)
set_option maxRecDepth 100000
set_option maxHeartbeats 8000000
set_option linter.unusedVariables false
set_option linter.unusedSimpArgs false
def eCred (x : Cred) : List Value := [vi x.id, Value.string (bs x.key), vi x.frm, vi x.to]
theorem eCred_ok : EncOk eCred 4 := ⟨by omega, fun _ => rfl, fun _ => rfl⟩
theorem FO_62_0 : FieldOff Tryz.prog 62 0 0 := fun r k w => by simp [Instr.fieldAt, Instr.sureAddr, fieldPlace, addr_add]
theorem FO_62_1 : FieldOff Tryz.prog 62 1 1 := fun r k w => by simp [Instr.fieldAt, Instr.sureAddr, fieldPlace, addr_add]
theorem FO_62_2 : FieldOff Tryz.prog 62 2 2 := fun r k w => by simp [Instr.fieldAt, Instr.sureAddr, fieldPlace, addr_add]
theorem FO_62_3 : FieldOff Tryz.prog 62 3 3 := fun r k w => by simp [Instr.fieldAt, Instr.sureAddr, fieldPlace, addr_add]
theorem FO_146_0 : FieldOff Tryz.prog 146 0 0 := fun r k w => by simp [Instr.fieldAt, Instr.sureAddr, fieldPlace, addr_add]
theorem FO_216_0 : FieldOff Tryz.prog 216 0 0 := fun r k w => by simp [Instr.fieldAt, Instr.sureAddr, fieldPlace, addr_add]
theorem PL_62 : Places Tryz.prog 62 [(0, 1), (1, 1), (2, 1), (3, 1)] := ⟨_, fun w => Tryz.runUnderlying62 w, fun w => by simp⟩
theorem PL_146 : Places Tryz.prog 146 [(0, 4)] := ⟨_, fun w => Tryz.runUnderlying146 w, fun w => by simp⟩
theorem PL_216 : Places Tryz.prog 216 [(0, 1)] := ⟨_, fun w => Tryz.runUnderlying216 w, fun w => by simp⟩
theorem TY_62 : Ty Tryz.prog 62 4 40 (Value.agg [(vi 0), (vt ([] : Str)), (vi 0), (vi 0)].toArray) := ⟨⟨Tryz.t62, by kernel_rfl, rfl, rfl, rfl⟩, rfl⟩
theorem mRight_ok (w : World) {key : Str} : Val Tryz.prog 134 [(vt key)] w (Value.bool (mRight key)) := by
 have hF := Is.refl (mRight key)
 refine enter Tryz.func134 Tryz.ntmps134 (h := ?_)
 refine Z2 ?_
 refine Z107 ?_
 refine JL_q (q_lenT Tryz.runUnderlying9) (k := ?_)
 refine Z328 ?_
 refine JL_dec 6 rfl (fun hq1 => ?_) (fun hq1 => ?_)
 rotate_left
 ·refine JL_skips 3 rfl ?_
  refine Z26 ?_
  refine JX_ret Tryz.results134 (Res.tmp rfl Res.nil) (fun w1 hw1 => ?_)
  exact ⟨(by rw [(hF.neg hq1).eq] <;> first | rfl | (simp only [List.length_set] <;> rfl)), hw1.ext_out⟩
 refine Z489 ?_
 refine JL_qg (q_lenT Tryz.runUnderlying9) (k := ?_)
 refine JL_qg q_leq (k := ?_)
 refine Z79 ?_
 refine JX_ret Tryz.results134 (Res.tmp rfl Res.nil) (fun w1 hw1 => ?_)
 exact ⟨(by rw [(hF.pos hq1).eq] <;> first | rfl | (simp only [List.length_set] <;> rfl)), hw1.ext_out⟩

theorem crClone_ok (w : World) {s_a : Option Addr} {s_c : Nat} {s : List Cred} (h_s : Sl w eCred 4 s_a s) (n_s : s.length ≤ 1000000) : Calls Tryz.prog 83 (List.toArray [(vs s_a s.length s_c)]) w fun e w2 => ∃ a1 : Option Addr, ∃ c1 : Nat, ∃ B1 : Heap, e = .returned (vs a1 s.length c1) ∧ Fresh w w2 B1 ∧ OwnB eCred 4 62 a1 c1 B1 s := by
 have hF := Is.refl s
 refine enter Tryz.func83 Tryz.ntmps83 (h := ?_)
 refine Z216 ?_
 refine JL_q (q_eqNil Tryz.runUnderlying50) (k := ?_)
 refine Z0 ?_
 refine J_cond rfl (fun hq1 => ?_) (fun hq1 => ?_)
 ·refine J_seq ?_
  refine Z270 ?_
  refine JX_ret Tryz.results83 (Res.tmp rfl Res.nil) (fun w1 hw1 => ?_)
  have hcan0 : ([] : List Cred) = s := by (first | rfl | (exact clone_nil h_s (by assumption)))
  have hlen0 : 0 = s.length := by first | (rw [← hcan0]; done) | (rw [← hcan0]; first | rfl | (simp; done) | (simp only [List.length_append, List.length_take, List.length_drop, List.length_set, List.length_replicate, List.length_cons, List.length_nil, List.length_map, toS_length, toI_length]; omega) | (simp; omega))
  exact ⟨none, 0, [], (by rw [← hlen0]; first | rfl | rfl), (hw1.fresh_out.sub (List.nil_sublist _)), (hcan0 ▸ OwnB.nil)⟩
 refine Z390 ?_
 refine JL_a noMk (a_bslice (l := []) Tryz.runUnderlying50 Tryz.sizeOf62 Tryz.zeroValue62) (k := fun r1 hr1 => ?_)
 refine Z481 ?_
 refine JL_append s (List.nil_append _) TY_62 Tryz.underlying50 eCred_ok OwnB.nil (List.Perm.refl _) (SlJ.of_base h_s) ⟨by omega, by omega⟩ (n := 0) (m := s.length) (k := fun ax1 cx1 Bx1 hox1 => ?_)
 refine Z6 ?_
 refine JX_ret Tryz.results83 (Res.tmp rfl Res.nil) (fun w1 hw1 => ?_)
 have hcan0 : s = s := by (first | rfl | (exact clone_nil h_s (by assumption)))
 have hlen0 : s.length = s.length := by first | (rw [← hcan0]; done) | (rw [← hcan0]; first | rfl | (simp; done) | (simp only [List.length_append, List.length_take, List.length_drop, List.length_set, List.length_replicate, List.length_cons, List.length_nil, List.length_map, toS_length, toI_length]; omega) | (simp; omega))
 exact ⟨ax1, cx1, Bx1, (by rw [← hlen0]; first | rfl | rfl), (fresh_segs (L := Bx1) (hw1.perm (List.Perm.refl _)) rfl.symm), (hcan0 ▸ hox1)⟩

theorem cIsIn_ok (w : World) {n_ : Int} {least : Int} {most : Int} : Val Tryz.prog 133 [(vi n_), (vi least), (vi most)] w (Value.bool (cIsIn n_ least most)) := by
 have hF := Is.refl (cIsIn n_ least most)
 refine enter Tryz.func133 Tryz.ntmps133 (h := ?_)
 refine Z2 ?_
 refine Z276 ?_
 refine Z328 ?_
 refine JL_dec 10 rfl (fun hq1 => ?_) (fun hq1 => ?_)
 rotate_left
 ·refine JL_skips 3 rfl ?_
  refine Z26 ?_
  refine JX_ret Tryz.results133 (Res.tmp rfl Res.nil) (fun w1 hw1 => ?_)
  exact ⟨(by rw [(hF.neg hq1).eq] <;> first | rfl | (simp only [List.length_set] <;> rfl)), hw1.ext_out⟩
 refine Z141 ?_
 refine JL_qg q_leq (k := ?_)
 refine Z79 ?_
 refine JX_ret Tryz.results133 (Res.tmp rfl Res.nil) (fun w1 hw1 => ?_)
 exact ⟨(by rw [(hF.pos hq1).eq] <;> first | rfl | (simp only [List.length_set] <;> rfl)), hw1.ext_out⟩

theorem cIsId_ok (w : World) {c : Cred} : Val Tryz.prog 95 [(Value.agg [(vi c.id), (vt c.key), (vi c.frm), (vi c.to)].toArray)] w (Value.bool (cIsId c)) := by
 have hF := Is.refl (cIsId c)
 refine enter Tryz.func95 Tryz.ntmps95 (h := ?_)
 refine Z2 ?_
 refine JL_a noMk (a_box (l := [_, _, _, _])) (k := fun r1 hr1 => ?_)
 refine Z91 ?_
 refine JL_q (q_fld FO_146_0) (k := ?_)
 refine JL_q (q_fld FO_62_0) (k := ?_)
 refine Z499 ?_
 refine JL_v (c_callA Tryz.call133) (fun w1 hw1 => cIsIn_ok w1 (n_ := c.id) (least := 1) (most := 1000000000)) (k := ?_)
 refine Z6 ?_
 refine JX_ret Tryz.results95 (Res.tmp rfl Res.nil) (fun w1 hw1 => ?_)
 exact ⟨(by rw [hF.eq] <;> first | rfl | (simp only [List.length_set] <;> rfl)), hw1.ext_out⟩

theorem cIsKey_ok (w : World) {c : Cred} : Val Tryz.prog 96 [(Value.agg [(vi c.id), (vt c.key), (vi c.frm), (vi c.to)].toArray)] w (Value.bool (cIsKey c)) := by
 have hF := Is.refl (cIsKey c)
 refine enter Tryz.func96 Tryz.ntmps96 (h := ?_)
 refine Z2 ?_
 refine JL_a noMk (a_box (l := [_, _, _, _])) (k := fun r1 hr1 => ?_)
 refine Z91 ?_
 refine JL_q (q_fld FO_146_0) (k := ?_)
 refine JL_q (q_fld FO_62_1) (k := ?_)
 refine Z506 ?_
 refine JL_v (c_callA Tryz.call134) (fun w1 hw1 => mRight_ok w1 (key := c.key)) (k := ?_)
 refine Z6 ?_
 refine JX_ret Tryz.results96 (Res.tmp rfl Res.nil) (fun w1 hw1 => ?_)
 exact ⟨(by rw [hF.eq] <;> first | rfl | (simp only [List.length_set] <;> rfl)), hw1.ext_out⟩

theorem cIsSpan_ok (w : World) {c : Cred} : Val Tryz.prog 97 [(Value.agg [(vi c.id), (vt c.key), (vi c.frm), (vi c.to)].toArray)] w (Value.bool (cIsSpan c)) := by
 have hF := Is.refl (cIsSpan c)
 refine enter Tryz.func97 Tryz.ntmps97 (h := ?_)
 refine Z2 ?_
 refine JL_a noMk (a_box (l := [_, _, _, _])) (k := fun r1 hr1 => ?_)
 refine Z91 ?_
 refine JL_q (q_fld FO_146_0) (k := ?_)
 refine JL_q (q_fld FO_62_2) (k := ?_)
 refine Z499 ?_
 refine Z328 ?_
 refine JL_dec 7 rfl (fun hq1 => ?_) (fun hq1 => ?_)
 rotate_left
 ·refine JL_skips 7 rfl ?_
  refine Z252 ?_
  refine Z26 ?_
  refine JX_ret Tryz.results97 (Res.tmp rfl Res.nil) (fun w1 hw1 => ?_)
  exact ⟨(by rw [(hF.neg hq1).eq] <;> first | rfl | (simp only [List.length_set] <;> rfl)), hw1.ext_out⟩
 refine JL_qg (q_fld FO_146_0) (k := ?_)
 refine JL_qg (q_fld FO_62_2) (k := ?_)
 refine Z500 ?_
 refine JL_qg (q_fld FO_146_0) (k := ?_)
 refine JL_qg (q_fld FO_62_3) (k := ?_)
 refine Z500 ?_
 refine JL_qg q_lss (k := ?_)
 refine Z18 ?_
 refine JL_dec 16 rfl (fun hq2 => ?_) (fun hq2 => ?_)
 rotate_left
 ·refine JL_skips 4 rfl ?_
  refine Z26 ?_
  refine JX_ret Tryz.results97 (Res.tmp rfl Res.nil) (fun w1 hw1 => ?_)
  exact ⟨(by rw [((hF.pos hq1).neg hq2).eq] <;> first | rfl | (simp only [List.length_set] <;> rfl)), hw1.ext_out⟩
 refine JL_qg (q_fld FO_146_0) (k := ?_)
 refine JL_qg (q_fld FO_62_3) (k := ?_)
 refine Z415 ?_
 refine Z79 ?_
 refine JX_ret Tryz.results97 (Res.tmp rfl Res.nil) (fun w1 hw1 => ?_)
 exact ⟨(by rw [((hF.pos hq1).pos hq2).eq] <;> first | rfl | (simp only [List.length_set] <;> rfl)), hw1.ext_out⟩

theorem cRight_ok (w : World) {l_a : Option Addr} {l_c : Nat} {l : List Cred} (h_l : Sl w eCred 4 l_a l) (n_l : l.length ≤ 1000) : Val Tryz.prog 57 [(vs l_a l.length l_c)] w (Value.bool (cRight l)) := by
 have hF := Is.refl (cRight l)
 refine enter Tryz.func57 Tryz.ntmps57 (h := ?_)
 refine Z195 ?_
 refine JL_a noMk a_map (k := fun r1 hr1 => ?_)
 refine Z488 ?_
 refine Z104 ?_
 refine Z368 ?_
 refine J_loop6 (σ1 := Nat) (σ2 := Nat) (σ3 := Int) (σ4 := List Int) (σ5 := Array MapEntry) (σ6 := Nat) (fun n_4 x_1 last_2 x_3 x_3e x_3k => ((r1, Obj.map x_3e x_3k) :: [])) (fun n_4 x_1 last_2 x_3 x_3e x_3k => [(0, (vs l_a l.length l_c)), (2, (Value.bool false)), (3, (Value.map (some r1))), (4, (vi last_2)), (8, (vs l_a l.length l_c)), (9, (vi ((l.length : Nat) : Int))), (10, (vi ((x_1 : Nat) : Int)))]) (fun n_4 x_1 last_2 x_3 x_3e x_3k => l.length - x_1 < n_4 ∧ Is (cRight_l0 l (l.length + 1) 0 0 ([] : List Int)) (cRight_l0 l n_4 x_1 last_2 x_3) ∧ MSet (fun x : Int => vi x) x_3e x_3 ∧ x_1 ≤ l.length) (fun n_4 x_1 last_2 x_3 x_3e x_3k => n_4) (l.length + 1) 0 0 ([] : List Int) (#[]) 0 ?_ se (List.Perm.refl _) ?_
 ·exact ⟨Nat.lt_succ_self _, Is.refl _, MSet.nil, (by first | omega | rfl | (simp; done))⟩
 ·rintro (_ | n_4) x_1 last_2 x_3 x_3e x_3k ⟨hm6, hF5, hx_3, hi7⟩
  ·omega
  refine Z38 ?_
  refine J_dec rfl (fun hq1 => ?_) (fun hq1 => ?_)
  ·refine J_skip ?_
   refine JX_seq ?_
   refine Z61 ?_
   refine Z192 ?_
   refine JL_a noMk (a_alloc (l := [_, _, _, _]) Tryz.zeroValue62) (k := fun r2 hr2 => ?_)
   refine Z507 ?_
   refine Z72 ?_
   refine Z4 ?_
   refine JL_q (q_fld FO_62_0) (k := ?_)
   refine Z499 ?_
   refine JL_q (q_inSet (xs := x_3) ((l.getD x_1 default).id) keyInt Tryz.runUnderlying142 Tryz.runUnderlying3 Tryz.zeroValue4 hx_3) (k := ?_)
   refine Z481 ?_
   refine JL_dec 18 rfl (fun hq2 => ?_) (fun hq2 => ?_)
   ·refine JL_skips 4 rfl ?_
    refine Z285 ?_
    refine Z396 ?_
    refine JX_ret Tryz.results57 (Res.tmp rfl Res.nil) (fun w1 hw1 => ?_)
    exact ⟨(by rw [(hF.er3 ((hF5.pos hq1).pos hq2)).eq] <;> first | rfl | (simp only [List.length_set] <;> rfl)), hw1.ext_out⟩
   refine JL_qg (q_fld FO_62_0) (k := ?_)
   refine Z300 ?_
   refine JL_qg q_lss (k := ?_)
   refine Z247 ?_
   refine J_dec rfl (fun hq3 => ?_) (fun hq3 => ?_)
   ·refine J_seq ?_
    refine Z270 ?_
    refine Z82 ?_
    refine JX_ret Tryz.results57 (Res.tmp rfl Res.nil) (fun w1 hw1 => ?_)
    exact ⟨(by rw [(hF.er3 (((hF5.pos hq1).neg hq2).pos hq3)).eq] <;> first | rfl | (simp only [List.length_set] <;> rfl)), hw1.ext_out⟩
   refine Z14 ?_
   refine J_planV _ _ (vp (qa q0) (nC nE)) mixed 7 [(true, 0), (true, 1), (true, 2), (true, 3), (true, 4), (false, 5), (true, 6)] (by kernel_rfl) ?_
   refine Z483 ?_
   refine JD_q (q_fld FO_62_0) (k := ?_)
   refine Z496 ?_
   refine JD_q (q_fld FO_62_0) (k := ?_)
   refine Z496 ?_
   refine JD_sput (xs := x_3) ((l.getD x_1 default).id) keyInt Tryz.runUnderlying142 Tryz.runUnderlying3 hx_3 (by assumption) q0 (k := fun em6 km6 hms6 => ?_)
   refine Z124 ?_
   refine Z181 ?_
   refine Z40 ?_
   refine JX_subL _ (List.Sublist.cons_cons _ (List.nil_sublist _)) ?_
   exact JX_inv6 n_4 (x_1 + 1) ((l.getD x_1 default).id) (x_3 ++ [((l.getD x_1 default).id)]) em6 km6 ⟨by omega, (((hF5.pos hq1).neg hq2).neg hq3), hms6, (by omega)⟩ (Nat.lt_succ_self _) se (List.Perm.refl _)
  refine J_exit ?_
  refine Z353 ?_
  refine Z508 ?_
  refine JL_q q_leq (k := ?_)
  refine Z481 ?_
  refine JL_dec 33 rfl (fun hq4 => ?_) (fun hq4 => ?_)
  rotate_left
  ·refine JL_skips 3 rfl ?_
   refine Z26 ?_
   refine JX_ret Tryz.results57 (Res.tmp rfl Res.nil) (fun w1 hw1 => ?_)
   exact ⟨(by rw [((hF.ok3 (hF5.neg hq1)).neg hq4).eq] <;> first | rfl | (simp only [List.length_set] <;> rfl)), hw1.ext_out⟩
  refine Z489 ?_
  refine JL_ag noMk (a_bslice (l := [_, _, _]) Tryz.runUnderlying190 Tryz.sizeOf144 Tryz.zeroValue144) (k := fun r3 hr3 => ?_)
  refine JL_inlg (args := [_, _]) (c_callA Tryz.call94) Tryz.func94 Tryz.ntmps94 ?_
  refine Z216 ?_
  refine Z368 ?_
  refine J_loop2 (σ1 := Nat) (σ2 := Nat) (fun n_9 x_8 => ((r3, oc [(Value.func (.func 95) [].toArray [].toArray), (Value.func (.func 96) [].toArray [].toArray), (Value.func (.func 97) [].toArray [].toArray)] 144) :: ((r1, Obj.map x_3e x_3k) :: []))) (fun n_9 x_8 => [(1, (vs (some ⟨r3, 0, none⟩) 3 3)), (4, (Value.bool false)), (9, (vs l_a l.length l_c)), (10, (vi ((l.length : Nat) : Int))), (11, (vi ((x_8 : Nat) : Int)))]) (fun n_9 x_8 => l.length - x_8 < n_9 ∧ Is (cRight_l1 l x_1 last_2 x_3 (l.length + 1) 0) (cRight_l1 l x_1 last_2 x_3 n_9 x_8) ∧ x_8 ≤ l.length) (fun n_9 x_8 => n_9) (l.length + 1) 0 ?_ se (List.Perm.refl _) ?_
  ·exact ⟨Nat.lt_succ_self _, Is.refl _, (by first | omega | rfl | (simp; done))⟩
  ·rintro (_ | n_9) x_8 ⟨hm11, hF10, hi12⟩
   ·omega
   refine Z38 ?_
   refine J_dec rfl (fun hq5 => ?_) (fun hq5 => ?_)
   rotate_left
   ·refine J_exit ?_
    refine Z272 ?_
    refine Z431 ?_
    refine JX_ret Tryz.results57 (Res.tmp rfl Res.nil) (fun w1 hw1 => ?_)
    exact ⟨(by rw [(((hF.ok3 (hF5.neg hq1)).pos hq4).ok1 (hF10.neg hq5)).eq] <;> first | rfl | (simp only [List.length_set] <;> rfl)), hw1.ext_out⟩
   refine Z14 ?_
   refine Z61 ?_
   refine JL_q (q_idx (n := l.length) Tryz.runUnderlying50 Tryz.sizeOf62 x_8 (SlJ.of_base h_l) (gD (by first | exact ix)) (by first | rfl | simp)) (k := ?_)
   refine JL_q (q_loadEA Tryz.isAgg62 Tryz.sizeOf62 x_8 (SlJ.of_base h_l) (gD (by first | exact ix))) (k := ?_)
   refine JL_a noMk (a_alloc (l := [_, _, _, _]) Tryz.zeroValue62) (k := fun r4 hr4 => ?_)
   refine Z507 ?_
   refine Z237 ?_
   refine JL_q (q_lenS Tryz.runUnderlying190) (k := ?_)
   refine Z283 ?_
   refine Z69 ?_
   refine JL_q (q_idxO Tryz.runUnderlying190 Tryz.sizeOf144 0) (k := ?_)
   refine JL_q (q_load Tryz.isAgg144) (k := ?_)
   refine Z107 ?_
   refine Z253 ?_
   refine JL_v (c_callA Tryz.call95) (fun w1 hw1 => cIsId_ok w1 (c := (l.getD x_8 default))) (k := ?_)
   refine Z189 ?_
   refine J_cond rfl (fun hq6 => ?_) (fun hq6 => ?_)
   ·refine J_seq ?_
    refine Z486 ?_
    refine Z6 ?_
    refine Z48 ?_
    refine JX_block_ret ?_
    refine Z82 ?_
    refine Z431 ?_
    refine JX_ret Tryz.results57 (Res.tmp rfl Res.nil) (fun w1 hw1 => ?_)
    exact ⟨(by rw [(((hF.ok3 (hF5.neg hq1)).pos hq4).er1 ((hF10.pos hq5).t hq6)).eq] <;> first | rfl | (simp only [List.length_set] <;> rfl)), hw1.ext_out⟩
   refine Z100 ?_
   refine JL_q (q_idxO Tryz.runUnderlying190 Tryz.sizeOf144 1) (k := ?_)
   refine JL_q (q_load Tryz.isAgg144) (k := ?_)
   refine Z107 ?_
   refine Z253 ?_
   refine JL_v (c_callA Tryz.call96) (fun w1 hw1 => cIsKey_ok w1 (c := (l.getD x_8 default))) (k := ?_)
   refine Z189 ?_
   refine J_cond rfl (fun hq7 => ?_) (fun hq7 => ?_)
   ·refine J_seq ?_
    refine Z486 ?_
    refine Z6 ?_
    refine Z48 ?_
    refine JX_block_ret ?_
    refine Z82 ?_
    refine Z431 ?_
    refine JX_ret Tryz.results57 (Res.tmp rfl Res.nil) (fun w1 hw1 => ?_)
    exact ⟨(by rw [(((hF.ok3 (hF5.neg hq1)).pos hq4).er1 (((hF10.pos hq5).f hq6).t hq7)).eq] <;> first | rfl | (simp only [List.length_set] <;> rfl)), hw1.ext_out⟩
   refine Z100 ?_
   refine JL_q (q_idxO Tryz.runUnderlying190 Tryz.sizeOf144 2) (k := ?_)
   refine JL_q (q_load Tryz.isAgg144) (k := ?_)
   refine Z107 ?_
   refine Z253 ?_
   refine JL_v (c_callA Tryz.call97) (fun w1 hw1 => cIsSpan_ok w1 (c := (l.getD x_8 default))) (k := ?_)
   refine Z189 ?_
   refine J_cond rfl (fun hq8 => ?_) (fun hq8 => ?_)
   ·refine J_seq ?_
    refine Z486 ?_
    refine Z6 ?_
    refine Z48 ?_
    refine JX_block_ret ?_
    refine Z82 ?_
    refine Z431 ?_
    refine JX_ret Tryz.results57 (Res.tmp rfl Res.nil) (fun w1 hw1 => ?_)
    exact ⟨(by rw [(((hF.ok3 (hF5.neg hq1)).pos hq4).er1 ((((hF10.pos hq5).f hq6).f hq7).t hq8)).eq] <;> first | rfl | (simp only [List.length_set] <;> rfl)), hw1.ext_out⟩
   refine Z250 ?_
   refine Z55 ?_
   refine Z40 ?_
   refine JX_permL _ ((qa (qa q0)).trans (qa (qa q0))) ?_
   refine JX_subL _ (List.Sublist.cons_cons _ (List.Sublist.cons_cons _ (List.nil_sublist _))) ?_
   exact JX_inv2 n_9 (x_8 + 1) ⟨by omega, ((((hF10.pos hq5).f hq6).f hq7).f hq8), (by omega)⟩ (Nat.lt_succ_self _) se (List.Perm.refl _)

theorem cRot_ok (w : World) {l_a : Option Addr} {l_c : Nat} {ea0 : Addr} {ea1 : Addr} {ea2 : Addr} {ea3 : Addr} {l : List Cred} {key : Str} {now : Int} {overlap : Int} {span : Int} (h_l : Sl w eCred 4 l_a l) (n_l : l.length ≤ 1000) (hG : Gl w) (hE : Er w ea0 ea1 ea2 ea3) : Calls Tryz.prog 111 (List.toArray [(vs l_a l.length l_c), (vt key), (vi now), (vi overlap), (vi span)]) w fun e w2 => ∃ a1 : Option Addr, ∃ c1 : Nat, ∃ B1 : Heap, e = .returned (Value.tuple [(vs a1 ((cRot l key now overlap span).1.length) c1), (vi ((cRot l key now overlap span).2.1)), (vi ((cRot l key now overlap span).2.2))].toArray) ∧ Fresh w w2 B1 ∧ OwnB eCred 4 62 a1 c1 B1 (cRot l key now overlap span).1 ∧ (cRot l key now overlap span).1.length ≤ 4 := by
 have hF := Is.refl (cRot l key now overlap span)
 refine enter Tryz.func111 Tryz.ntmps111 (h := ?_)
 refine Z2 ?_
 refine Z74 ?_
 refine Z107 ?_
 refine Z27 ?_
 refine Z27 ?_
 refine JL_inl (args := [_, _, _, _, _]) (c_callA Tryz.call141) Tryz.func141 Tryz.ntmps141 ?_
 refine Z2 ?_
 refine JL_a noMk (a_box (l := [_])) (k := fun r1 hr1 => ?_)
 refine JL_a noMk (a_box (l := [_])) (k := fun r2 hr2 => ?_)
 refine Z74 ?_
 refine Z441 ?_
 refine JL_v (c_callA Tryz.call57) (fun w1 hw1 => cRight_ok w1 (l := l) (h_l := (SlJ.of_base h_l) w1 hw1) (n_l := by first | exact lb | decide)) (k := ?_)
 refine Z424 ?_
 refine J_cond rfl (fun hq1 => ?_) (fun hq1 => ?_)
 ·refine J_seq ?_
  refine Z486 ?_
  refine Z140 ?_
  refine Z74 ?_
  refine Z292 ?_
  refine Z466 ?_
  refine JL_a noMk (a_alloc (l := [_]) Tryz.zeroValue216) (k := fun r3 hr3 => ?_)
  refine Z477 ?_
  refine JL_p (args := [(Value.iface 216 (Value.agg [(vi 110)].toArray)), (Value.iface 219 (Value.pointer (some ⟨r3, 0, none⟩)))]) (c_callA Tryz.call76) (fun w1 hw1 => as_hit_t w1 (hG.ext hw1.ext_out).ety (hw1.own _ me)) (k := ?_)
  rintro w1_1 e1_1 w2_1 hw1_1 ⟨he_1, hT_1⟩
  refine ⟨_, _, he_1, (hw1_1.perm q0).tr hT_1, ?_⟩
  refine Z200 ?_
  refine Z193 ?_
  refine Z41 ?_
  refine Z205 ?_
  refine Z6 ?_
  refine JX_ret Tryz.results111 (Res.tmp rfl (Res.tmp rfl (Res.tmp rfl Res.nil))) (fun w1 hw1 => ?_)
  exact ⟨none, 0, [], (by rw [(hF.t hq1).eq] <;> first | rfl | (simp only [List.length_set] <;> rfl)), (hw1.fresh_out.sub (List.nil_sublist _)), (by rw [(hF.t hq1).eq]; exact OwnB.nil), (by rw [(hF.t hq1).eq]; first | exact lb)⟩
 have hfhq1 := cRight_t (by simpa using hq1)
 refine Z4 ?_
 refine JL_v (c_callA Tryz.call134) (fun w1 hw1 => mRight_ok w1 (key := key)) (k := ?_)
 refine Z424 ?_
 refine J_cond rfl (fun hq2 => ?_) (fun hq2 => ?_)
 ·refine J_seq ?_
  refine Z486 ?_
  refine Z140 ?_
  refine Z74 ?_
  refine Z292 ?_
  refine Z466 ?_
  refine JL_a noMk (a_alloc (l := [_]) Tryz.zeroValue216) (k := fun r4 hr4 => ?_)
  refine Z477 ?_
  refine JL_p (args := [(Value.iface 216 (Value.agg [(vi 50)].toArray)), (Value.iface 219 (Value.pointer (some ⟨r4, 0, none⟩)))]) (c_callA Tryz.call76) (fun w1 hw1 => as_hit_t w1 (hG.ext hw1.ext_out).ety (hw1.own _ me)) (k := ?_)
  rintro w1_2 e1_2 w2_2 hw1_2 ⟨he_2, hT_2⟩
  refine ⟨_, _, he_2, (hw1_2.perm q0).tr hT_2, ?_⟩
  refine Z200 ?_
  refine Z193 ?_
  refine Z41 ?_
  refine Z205 ?_
  refine Z6 ?_
  refine JX_ret Tryz.results111 (Res.tmp rfl (Res.tmp rfl (Res.tmp rfl Res.nil))) (fun w1 hw1 => ?_)
  exact ⟨none, 0, [], (by rw [((hF.f hq1).t hq2).eq] <;> first | rfl | (simp only [List.length_set] <;> rfl)), (hw1.fresh_out.sub (List.nil_sublist _)), (by rw [((hF.f hq1).t hq2).eq]; exact OwnB.nil), (by rw [((hF.f hq1).t hq2).eq]; first | exact lb)⟩
 refine Z2 ?_
 refine Z499 ?_
 refine JL_v (c_callA Tryz.call133) (fun w1 hw1 => cIsIn_ok w1 (n_ := now) (least := 0) (most := 1000000000000)) (k := ?_)
 refine Z484 ?_
 refine Z481 ?_
 refine JL_bool 31 rfl (fun hq3 => ?_) (fun hq3 => ?_)
 ·refine JL_skips 3 rfl ?_
  refine Z241 ?_
  refine Z18 ?_
  refine JL_skips 4 rfl ?_
  refine Z442 ?_
  refine Z2 ?_
  refine Z140 ?_
  refine Z74 ?_
  refine Z292 ?_
  refine Z466 ?_
  refine JL_a noMk (a_alloc (l := [_]) Tryz.zeroValue216) (k := fun r5 hr5 => ?_)
  refine Z477 ?_
  refine JL_p (args := [(Value.iface 216 (Value.agg [(vi 2)].toArray)), (Value.iface 219 (Value.pointer (some ⟨r5, 0, none⟩)))]) (c_callA Tryz.call76) (fun w1 hw1 => as_hit_t w1 (hG.ext hw1.ext_out).ety (hw1.own _ me)) (k := ?_)
  rintro w1_3 e1_3 w2_3 hw1_3 ⟨he_3, hT_3⟩
  refine ⟨_, _, he_3, (hw1_3.perm q0).tr hT_3, ?_⟩
  refine Z200 ?_
  refine Z193 ?_
  refine Z41 ?_
  refine Z205 ?_
  refine Z6 ?_
  refine JX_ret Tryz.results111 (Res.tmp rfl (Res.tmp rfl (Res.tmp rfl Res.nil))) (fun w1 hw1 => ?_)
  exact ⟨none, 0, [], (by rw [(((hF.f hq1).f hq2).t hq3).eq] <;> first | rfl | (simp only [List.length_set] <;> rfl)), (hw1.fresh_out.sub (List.nil_sublist _)), (by rw [(((hF.f hq1).f hq2).t hq3).eq]; exact OwnB.nil), (by rw [(((hF.f hq1).f hq2).t hq3).eq]; first | exact lb)⟩
 have hfhq3 := cIsIn_t (by simpa using hq3)
 refine Z500 ?_
 refine JL_vg (c_callA Tryz.call133) (fun w1 hw1 => cIsIn_ok w1 (n_ := overlap) (least := 0) (most := 1000000000)) (k := ?_)
 refine JL_qg q_not (k := ?_)
 refine Z5 ?_
 refine JL_bool 36 rfl (fun hq4 => ?_) (fun hq4 => ?_)
 ·refine JL_skips 3 rfl ?_
  refine Z18 ?_
  refine JL_skips 4 rfl ?_
  refine Z442 ?_
  refine Z2 ?_
  refine Z140 ?_
  refine Z74 ?_
  refine Z292 ?_
  refine Z466 ?_
  refine JL_a noMk (a_alloc (l := [_]) Tryz.zeroValue216) (k := fun r6 hr6 => ?_)
  refine Z477 ?_
  refine JL_p (args := [(Value.iface 216 (Value.agg [(vi 2)].toArray)), (Value.iface 219 (Value.pointer (some ⟨r6, 0, none⟩)))]) (c_callA Tryz.call76) (fun w1 hw1 => as_hit_t w1 (hG.ext hw1.ext_out).ety (hw1.own _ me)) (k := ?_)
  rintro w1_4 e1_4 w2_4 hw1_4 ⟨he_4, hT_4⟩
  refine ⟨_, _, he_4, (hw1_4.perm q0).tr hT_4, ?_⟩
  refine Z200 ?_
  refine Z193 ?_
  refine Z41 ?_
  refine Z205 ?_
  refine Z6 ?_
  refine JX_ret Tryz.results111 (Res.tmp rfl (Res.tmp rfl (Res.tmp rfl Res.nil))) (fun w1 hw1 => ?_)
  exact ⟨none, 0, [], (by rw [((((hF.f hq1).f hq2).f hq3).t hq4).eq] <;> first | rfl | (simp only [List.length_set] <;> rfl)), (hw1.fresh_out.sub (List.nil_sublist _)), (by rw [((((hF.f hq1).f hq2).f hq3).t hq4).eq]; exact OwnB.nil), (by rw [((((hF.f hq1).f hq2).f hq3).t hq4).eq]; first | exact lb)⟩
 have hfhq4 := cIsIn_t (by simpa using hq4)
 refine Z489 ?_
 refine JL_vg (c_callA Tryz.call133) (fun w1 hw1 => cIsIn_ok w1 (n_ := span) (least := 1) (most := 1000000000)) (k := ?_)
 refine JL_qg q_not (k := ?_)
 refine Z5 ?_
 refine JL_bool 41 rfl (fun hq5 => ?_) (fun hq5 => ?_)
 ·refine JL_skips 4 rfl ?_
  refine Z442 ?_
  refine Z2 ?_
  refine Z140 ?_
  refine Z74 ?_
  refine Z292 ?_
  refine Z466 ?_
  refine JL_a noMk (a_alloc (l := [_]) Tryz.zeroValue216) (k := fun r7 hr7 => ?_)
  refine Z477 ?_
  refine JL_p (args := [(Value.iface 216 (Value.agg [(vi 2)].toArray)), (Value.iface 219 (Value.pointer (some ⟨r7, 0, none⟩)))]) (c_callA Tryz.call76) (fun w1 hw1 => as_hit_t w1 (hG.ext hw1.ext_out).ety (hw1.own _ me)) (k := ?_)
  rintro w1_5 e1_5 w2_5 hw1_5 ⟨he_5, hT_5⟩
  refine ⟨_, _, he_5, (hw1_5.perm q0).tr hT_5, ?_⟩
  refine Z200 ?_
  refine Z193 ?_
  refine Z41 ?_
  refine Z205 ?_
  refine Z6 ?_
  refine JX_ret Tryz.results111 (Res.tmp rfl (Res.tmp rfl (Res.tmp rfl Res.nil))) (fun w1 hw1 => ?_)
  exact ⟨none, 0, [], (by rw [(((((hF.f hq1).f hq2).f hq3).f hq4).t hq5).eq] <;> first | rfl | (simp only [List.length_set] <;> rfl)), (hw1.fresh_out.sub (List.nil_sublist _)), (by rw [(((((hF.f hq1).f hq2).f hq3).f hq4).t hq5).eq]; exact OwnB.nil), (by rw [(((((hF.f hq1).f hq2).f hq3).f hq4).t hq5).eq]; first | exact lb)⟩
 have hfhq5 := cIsIn_t (by simpa using hq5)
 refine Z300 ?_
 refine JL_qg q_add (k := ?_)
 refine JL_qg q_gtr (k := ?_)
 refine JL_q q_pickF (k := ?_)
 refine Z1 ?_
 refine J_dec rfl (fun hq6 => ?_) (fun hq6 => ?_)
 ·refine J_seq ?_
  refine Z486 ?_
  refine Z140 ?_
  refine Z74 ?_
  refine Z292 ?_
  refine Z466 ?_
  refine JL_a noMk (a_alloc (l := [_]) Tryz.zeroValue216) (k := fun r8 hr8 => ?_)
  refine Z477 ?_
  refine JL_p (args := [(Value.iface 216 (Value.agg [(vi 2)].toArray)), (Value.iface 219 (Value.pointer (some ⟨r8, 0, none⟩)))]) (c_callA Tryz.call76) (fun w1 hw1 => as_hit_t w1 (hG.ext hw1.ext_out).ety (hw1.own _ me)) (k := ?_)
  rintro w1_6 e1_6 w2_6 hw1_6 ⟨he_6, hT_6⟩
  refine ⟨_, _, he_6, (hw1_6.perm q0).tr hT_6, ?_⟩
  refine Z200 ?_
  refine Z193 ?_
  refine Z41 ?_
  refine Z205 ?_
  refine Z6 ?_
  refine JX_ret Tryz.results111 (Res.tmp rfl (Res.tmp rfl (Res.tmp rfl Res.nil))) (fun w1 hw1 => ?_)
  exact ⟨none, 0, [], (by rw [((((((hF.f hq1).f hq2).f hq3).f hq4).f hq5).pos hq6).eq] <;> first | rfl | (simp only [List.length_set] <;> rfl)), (hw1.fresh_out.sub (List.nil_sublist _)), (by rw [((((((hF.f hq1).f hq2).f hq3).f hq4).f hq5).pos hq6).eq]; exact OwnB.nil), (by rw [((((((hF.f hq1).f hq2).f hq3).f hq4).f hq5).pos hq6).eq]; first | exact lb)⟩
 refine J_skip ?_
 refine Z452 ?_
 refine JL_a noMk (a_alloc (l := [_]) Tryz.zeroValue3) (k := fun r9 hr9 => ?_)
 refine Z491 ?_
 refine Z237 ?_
 refine JL_q q_func (k := ?_)
 refine JL_inl (args := [_, _]) (c_callA Tryz.call158) Tryz.func158 Tryz.ntmps158 ?_
 refine Z195 ?_
 refine Z104 ?_
 refine Z368 ?_
 refine J_loop7 (σ1 := Nat) (σ2 := Nat) (σ3 := List Cred) (σ4 := Option Addr) (σ5 := Nat) (σ6 := Heap) (σ7 := Int) (fun n_4 x_1 out_2 out_2a out_2c out_2B x_3 => (out_2B ++ ((r9, oc [(vi x_3)] 3) :: ((r2, oc [(vi overlap)] 3) :: ((r1, oc [(vi now)] 3) :: []))))) (fun n_4 x_1 out_2 out_2a out_2c out_2B x_3 => [(1, (Value.func (.func 159) [].toArray [(Value.pointer (some ⟨r9, 0, none⟩)), (Value.pointer (some ⟨r1, 0, none⟩)), (Value.pointer (some ⟨r2, 0, none⟩))].toArray)), (4, (vs none 0 0)), (5, (vs out_2a out_2.length out_2c)), (8, (vs l_a l.length l_c)), (9, (vi ((l.length : Nat) : Int))), (10, (vi ((x_1 : Nat) : Int)))]) (fun n_4 x_1 out_2 out_2a out_2c out_2B x_3 => l.length - x_1 < n_4 ∧ Is (cRot_l0 l key now overlap span (l.length + 1) 0 [] 1) (cRot_l0 l key now overlap span n_4 x_1 out_2 x_3) ∧ OwnB eCred 4 62 out_2a out_2c out_2B out_2 ∧ out_2.length ≤ x_1 ∧ x_1 ≤ l.length) (fun n_4 x_1 out_2 out_2a out_2c out_2B x_3 => n_4) (l.length + 1) 0 ([]) none 0 ([]) 1 ?_ se (List.Perm.refl _) ?_
 ·exact ⟨Nat.lt_succ_self _, Is.refl _, OwnB.nil, (by first | omega | rfl | (simp; done)), (by first | omega | rfl | (simp; done))⟩
 ·rintro (_ | n_4) x_1 out_2 out_2a out_2c out_2B x_3 ⟨hm6, hF5, hout_2, hi7, hi8⟩
  ·omega
  refine Z38 ?_
  refine J_dec rfl (fun hq7 => ?_) (fun hq7 => ?_)
  ·refine J_skip ?_
   refine JX_seq ?_
   refine Z61 ?_
   refine Z192 ?_
   refine JL_a noMk (a_alloc (l := [_, _, _, _]) Tryz.zeroValue62) (k := fun r10 hr10 => ?_)
   refine Z507 ?_
   refine Z237 ?_
   refine Z509 ?_
   refine JL_inl (args := [_, _, _, _]) (c_callA Tryz.call159) Tryz.func159 Tryz.ntmps159 ?_
   refine Z2 ?_
   refine JL_a noMk (a_box (l := [_, _, _, _])) (k := fun r11 hr11 => ?_)
   refine JL_a noMk (a_alloc (l := [_, _, _, _]) Tryz.zeroValue62) (k := fun r12 hr12 => ?_)
   refine Z320 ?_
   refine JL_q (q_fld FO_62_0) (k := ?_)
   refine Z499 ?_
   have hid := RightC.id (l := l) (by assumption) x_1
   refine Z502 ?_
   refine Z422 ?_
   refine Z2 ?_
   refine Z379 ?_
   refine Z499 ?_
   refine JL_q q_leq (k := ?_)
   refine Z0 ?_
   refine J_dec rfl (fun hq8 => ?_) (fun hq8 => ?_)
   ·refine J_seq ?_
    refine Z486 ?_
    refine JL_q (q_build (cs := [_, _, _, _]) Tryz.zeroValue62 PL_62) (k := ?_)
    refine Z507 ?_
    refine Z44 ?_
    refine Z510 ?_
    refine JX_retI Tryz.results159 (Res.agg Tryz.isAgg62 Tryz.sizeOf62 rfl me rfl Res.nil) ?_
    refine Z377 ?_
    refine JL_q (q_fld FO_62_2) (k := ?_)
    refine Z499 ?_
    refine Z379 ?_
    refine Z12 ?_
    refine J_false rfl ?_
    refine Z306 ?_
    refine Z279 ?_
    exact JX_inv7 n_4 (x_1 + 1) out_2 out_2a out_2c out_2B (((l.getD x_1 default).id) + 1) ⟨by omega, ((hF5.pos hq7).pos hq8), hout_2, (by omega), (by omega)⟩ (Nat.lt_succ_self _) se (List.Perm.refl _)
   refine Z390 ?_
   refine Z379 ?_
   refine Z499 ?_
   refine Z499 ?_
   refine Z502 ?_
   refine JL_q q_min (k := ?_)
   refine JL_q (q_fld FO_62_3) (k := ?_)
   refine JL_s (w_store (l' := [_, _, _, _]) Tryz.sizeOf3) (k := ?_)
   refine Z320 ?_
   refine Z509 ?_
   refine Z507 ?_
   refine Z44 ?_
   refine JX_retI Tryz.results159 (Res.agg Tryz.isAgg62 Tryz.sizeOf62 rfl me rfl Res.nil) ?_
   refine Z377 ?_
   refine JL_q (q_fld FO_62_2) (k := ?_)
   refine Z499 ?_
   refine Z379 ?_
   refine Z12 ?_
   refine J_dec rfl (fun hq9 => ?_) (fun hq9 => ?_)
   rotate_left
   ·refine J_skip ?_
    refine Z40 ?_
    refine Z279 ?_
    exact JX_inv7 n_4 (x_1 + 1) out_2 out_2a out_2c out_2B (((l.getD x_1 default).id) + 1) ⟨by omega, (((hF5.pos hq7).neg hq8).neg hq9), hout_2, (by omega), (by omega)⟩ (Nat.lt_succ_self _) se (List.Perm.refl _)
   refine Z117 ?_
   refine Z509 ?_
   refine JL_a noMk (a_bslice (l := [_, _, _, _]) Tryz.runUnderlying50 Tryz.sizeOf62 Tryz.zeroValue62) (k := fun r13 hr13 => ?_)
   refine JL_append (out_2 ++ ([(Cred.mk ((l.getD x_1 default).id) ((l.getD x_1 default).key) ((l.getD x_1 default).frm) (if (now + overlap) < ((l.getD x_1 default).to) then (now + overlap) else ((l.getD x_1 default).to)))] : List Cred)) rfl TY_62 Tryz.underlying50 eCred_ok hout_2 (qb (qb (qb (qb q0)))) (SlJ.lit (xs := ([(Cred.mk ((l.getD x_1 default).id) ((l.getD x_1 default).key) ((l.getD x_1 default).frm) (if (now + overlap) < ((l.getD x_1 default).to) then (now + overlap) else ((l.getD x_1 default).to)))] : List Cred)) eCred_ok) ⟨by omega, by omega⟩ (n := out_2.length) (m := 1) (k := fun ax1 cx1 Bx1 hox1 => ?_)
   have hal1 : (out_2 ++ ([(Cred.mk ((l.getD x_1 default).id) ((l.getD x_1 default).key) ((l.getD x_1 default).frm) (if (now + overlap) < ((l.getD x_1 default).to) then (now + overlap) else ((l.getD x_1 default).to)))] : List Cred)).length = out_2.length + 1 := by first | rfl | exact List.length_append | simp
   refine Z59 ?_
   refine Z40 ?_
   refine JX_permL _ ((((qc (qa (qa (qa (qa (qa (qa q0))))))).trans (qa (qc (qa (qa (qa (qa (qa q0)))))))).trans (qa (qa (qc (qa (qa (qa (qa q0)))))))).trans (qb (qb (qb q0)))) ?_
   refine Z511 ?_
   exact JX_inv7 n_4 (x_1 + 1) (out_2 ++ ([(Cred.mk ((l.getD x_1 default).id) ((l.getD x_1 default).key) ((l.getD x_1 default).frm) (if (now + overlap) < ((l.getD x_1 default).to) then (now + overlap) else ((l.getD x_1 default).to)))] : List Cred)) ax1 cx1 Bx1 (((l.getD x_1 default).id) + 1) ⟨by omega, (((hF5.pos hq7).neg hq8).pos hq9), hox1, (by omega), (by omega)⟩ (Nat.lt_succ_self _) se (List.Perm.refl _)
  refine J_exit ?_
  refine Z353 ?_
  refine Z6 ?_
  refine JX_retI Tryz.results158 (Res.tmp rfl Res.nil) ?_
  refine Z107 ?_
  refine Z345 ?_
  refine Z499 ?_
  refine Z499 ?_
  refine Z232 ?_
  refine JL_q (q_build (cs := [_, _, _, _]) Tryz.zeroValue62 PL_62) (k := ?_)
  refine JL_a noMk (a_bslice (l := [_, _, _, _]) Tryz.runUnderlying50 Tryz.sizeOf62 Tryz.zeroValue62) (k := fun r14 hr14 => ?_)
  refine JL_append (out_2 ++ ([(Cred.mk x_3 key now (now + span))] : List Cred)) rfl TY_62 Tryz.underlying50 eCred_ok hout_2 (qb q0) (SlJ.lit (xs := ([(Cred.mk x_3 key now (now + span))] : List Cred)) eCred_ok) ⟨by omega, by omega⟩ (n := out_2.length) (m := 1) (k := fun ax2 cx2 Bx2 hox2 => ?_)
  have hal2 : (out_2 ++ ([(Cred.mk x_3 key now (now + span))] : List Cred)).length = out_2.length + 1 := by first | rfl | exact List.length_append | simp
  refine Z104 ?_
  refine Z508 ?_
  refine JL_q q_gtr (k := ?_)
  refine Z481 ?_
  refine JL_dec 65 rfl (fun hq10 => ?_) (fun hq10 => ?_)
  ·refine JL_skips 2 rfl ?_
   refine Z285 ?_
   refine Z140 ?_
   refine Z74 ?_
   refine Z41 ?_
   refine Z466 ?_
   refine JL_a noMk (a_alloc (l := [_]) Tryz.zeroValue216) (k := fun r15 hr15 => ?_)
   refine Z477 ?_
   refine JL_p (args := [(Value.iface 216 (Value.agg [(vi 92)].toArray)), (Value.iface 219 (Value.pointer (some ⟨r15, 0, none⟩)))]) (c_callA Tryz.call76) (fun w1 hw1 => as_hit_t w1 (hG.ext hw1.ext_out).ety (hw1.own _ me)) (k := ?_)
   rintro w1_7 e1_7 w2_7 hw1_7 ⟨he_7, hT_7⟩
   refine ⟨_, _, he_7, (hw1_7.perm q0).tr hT_7, ?_⟩
   refine Z200 ?_
   refine Z193 ?_
   refine Z41 ?_
   refine Z205 ?_
   refine Z6 ?_
   refine JX_ret Tryz.results111 (Res.tmp rfl (Res.tmp rfl (Res.tmp rfl Res.nil))) (fun w1 hw1 => ?_)
   exact ⟨none, 0, [], (by rw [((((((((hF.f hq1).f hq2).f hq3).f hq4).f hq5).neg hq6).rn3 (hF5.neg hq7)).pos hq10).eq] <;> first | rfl | (simp only [List.length_set] <;> rfl)), (hw1.fresh_out.sub (List.nil_sublist _)), (by rw [((((((((hF.f hq1).f hq2).f hq3).f hq4).f hq5).neg hq6).rn3 (hF5.neg hq7)).pos hq10).eq]; exact OwnB.nil), (by rw [((((((((hF.f hq1).f hq2).f hq3).f hq4).f hq5).neg hq6).rn3 (hF5.neg hq7)).pos hq10).eq]; first | exact lb)⟩
  refine Z500 ?_
  refine JL_qg q_gtr (k := ?_)
  refine Z247 ?_
  refine J_dec rfl (fun hq11 => ?_) (fun hq11 => ?_)
  rotate_left
  ·refine J_skip ?_
   refine Z403 ?_
   refine J_plan mixed 5 [(true, 0), (true, 1), (true, 2), (true, 3), (true, 4)] (by kernel_rfl) ?_
   refine Z483 ?_
   refine Z496 ?_
   refine JD_q q_assign (k := ?_)
   refine JD_q q_assign (k := ?_)
   refine Z86 ?_
   refine Z466 ?_
   refine JL_a noMk (a_alloc (l := [_]) Tryz.zeroValue216) (k := fun r17 hr17 => ?_)
   refine Z477 ?_
   refine JL_v (args := [Value.nilIface, (Value.iface 219 (Value.pointer (some ⟨r17, 0, none⟩)))]) (c_callA Tryz.call76) (fun w1 hw1 => as_nil_v w1) (k := ?_)
   refine Z49 ?_
   refine Z14 ?_
   refine Z178 ?_
   refine Z205 ?_
   refine Z6 ?_
   refine JX_ret Tryz.results111 (Res.tmp rfl (Res.tmp rfl (Res.tmp rfl Res.nil))) (fun w1 hw1 => ?_)
   exact ⟨ax2, cx2, Bx2, (by rw [(((((((((hF.f hq1).f hq2).f hq3).f hq4).f hq5).neg hq6).rn3 (hF5.neg hq7)).neg hq10).neg hq11).eq] <;> first | rfl | (simp only [List.length_set] <;> rfl)), (fresh_segs (L := Bx2) (hw1.perm (qb q0)) rfl.symm), (by rw [(((((((((hF.f hq1).f hq2).f hq3).f hq4).f hq5).neg hq6).rn3 (hF5.neg hq7)).neg hq10).neg hq11).eq]; exact hox2), (by rw [(((((((((hF.f hq1).f hq2).f hq3).f hq4).f hq5).neg hq6).rn3 (hF5.neg hq7)).neg hq10).neg hq11).eq]; first | exact lb)⟩
  refine Z2 ?_
  refine Z140 ?_
  refine Z74 ?_
  refine Z41 ?_
  refine Z466 ?_
  refine JL_a noMk (a_alloc (l := [_]) Tryz.zeroValue216) (k := fun r16 hr16 => ?_)
  refine Z477 ?_
  refine JL_p (args := [(Value.iface 216 (Value.agg [(vi 92)].toArray)), (Value.iface 219 (Value.pointer (some ⟨r16, 0, none⟩)))]) (c_callA Tryz.call76) (fun w1 hw1 => as_hit_t w1 (hG.ext hw1.ext_out).ety (hw1.own _ me)) (k := ?_)
  rintro w1_8 e1_8 w2_8 hw1_8 ⟨he_8, hT_8⟩
  refine ⟨_, _, he_8, (hw1_8.perm q0).tr hT_8, ?_⟩
  refine Z200 ?_
  refine Z193 ?_
  refine Z41 ?_
  refine Z205 ?_
  refine Z6 ?_
  refine JX_ret Tryz.results111 (Res.tmp rfl (Res.tmp rfl (Res.tmp rfl Res.nil))) (fun w1 hw1 => ?_)
  exact ⟨none, 0, [], (by rw [(((((((((hF.f hq1).f hq2).f hq3).f hq4).f hq5).neg hq6).rn3 (hF5.neg hq7)).neg hq10).pos hq11).eq] <;> first | rfl | (simp only [List.length_set] <;> rfl)), (hw1.fresh_out.sub (List.nil_sublist _)), (by rw [(((((((((hF.f hq1).f hq2).f hq3).f hq4).f hq5).neg hq6).rn3 (hF5.neg hq7)).neg hq10).pos hq11).eq]; exact OwnB.nil), (by rw [(((((((((hF.f hq1).f hq2).f hq3).f hq4).f hq5).neg hq6).rn3 (hF5.neg hq7)).neg hq10).pos hq11).eq]; first | exact lb)⟩

end Go.Proofs.YtopjaeoklkpcpaaGreatDoor.Jd

namespace Go.Proofs.YtopjaeoklkpcpaaGreatDoor.Jd
open Go.Proofs
open Go.RowKit (Below)
set_option maxRecDepth 100000
set_option maxHeartbeats 8000000
set_option linter.unusedVariables false
set_option linter.unusedSimpArgs false
def DT (w : World) (x : Tenant) (t : TA) : Prop := Sl w eRule 5 t.ra x.rules ∧ Sl w eCred 4 t.ca x.creds ∧ x.rules.length ≤ t.rc ∧ x.creds.length ≤ t.cc
theorem DT_ok : DeepOk DT := fun w w' x t hc h => ⟨h.1.cmono hc, h.2.1.cmono hc, h.2.2⟩
def eTenant (x : Tenant × TA) : List Value := [vi x.1.handle.slot, vi x.1.handle.gen, Value.string (bs x.1.name), vi x.1.state, vi x.1.version, vs x.2.ra x.1.rules.length x.2.rc, vs x.2.ca x.1.creds.length x.2.cc, vi x.1.deadline]
theorem eTenant_ok : EncOk eTenant 8 := ⟨by omega, fun _ => rfl, fun _ => rfl⟩
theorem FO_28_0 : FieldOff Tryz.prog 28 0 0 := fun r k w => by simp [Instr.fieldAt, Instr.sureAddr, fieldPlace, addr_add]
theorem FO_28_1 : FieldOff Tryz.prog 28 1 3 := fun r k w => by simp [Instr.fieldAt, Instr.sureAddr, fieldPlace, addr_add]
theorem FO_28_2 : FieldOff Tryz.prog 28 2 4 := fun r k w => by simp [Instr.fieldAt, Instr.sureAddr, fieldPlace, addr_add]
theorem FO_52_0 : FieldOff Tryz.prog 52 0 0 := fun r k w => by simp [Instr.fieldAt, Instr.sureAddr, fieldPlace, addr_add]
theorem FO_52_1 : FieldOff Tryz.prog 52 1 2 := fun r k w => by simp [Instr.fieldAt, Instr.sureAddr, fieldPlace, addr_add]
theorem FO_52_2 : FieldOff Tryz.prog 52 2 3 := fun r k w => by simp [Instr.fieldAt, Instr.sureAddr, fieldPlace, addr_add]
theorem FO_52_3 : FieldOff Tryz.prog 52 3 4 := fun r k w => by simp [Instr.fieldAt, Instr.sureAddr, fieldPlace, addr_add]
theorem FO_52_4 : FieldOff Tryz.prog 52 4 5 := fun r k w => by simp [Instr.fieldAt, Instr.sureAddr, fieldPlace, addr_add]
theorem FO_52_5 : FieldOff Tryz.prog 52 5 6 := fun r k w => by simp [Instr.fieldAt, Instr.sureAddr, fieldPlace, addr_add]
theorem FO_52_6 : FieldOff Tryz.prog 52 6 7 := fun r k w => by simp [Instr.fieldAt, Instr.sureAddr, fieldPlace, addr_add]
theorem FO_88_0 : FieldOff Tryz.prog 88 0 0 := fun r k w => by simp [Instr.fieldAt, Instr.sureAddr, fieldPlace, addr_add]
theorem FO_88_1 : FieldOff Tryz.prog 88 1 8 := fun r k w => by simp [Instr.fieldAt, Instr.sureAddr, fieldPlace, addr_add]
theorem PL_88 : Places Tryz.prog 88 [(0, 8), (8, 1)] := ⟨_, fun w => Tryz.runUnderlying88 w, fun w => by simp⟩
theorem gIsName_ok (w : World) {s : Str} : Val Tryz.prog 92 [(vt s)] w (Value.bool (gIsName s)) := by
 have hF := Is.refl (gIsName s)
 refine enter Tryz.func92 Tryz.ntmps92 (h := ?_)
 refine Z2 ?_
 refine Z107 ?_
 refine JL_q q_neT (k := ?_)
 refine Z481 ?_
 refine JL_dec 5 rfl (fun hq1 => ?_) (fun hq1 => ?_)
 rotate_left
 ·refine JL_skips 3 rfl ?_
  refine Z372 ?_
  refine Z26 ?_
  refine JX_ret Tryz.results92 (Res.tmp rfl Res.nil) (fun w1 hw1 => ?_)
  exact ⟨(by rw [(hF.neg hq1).eq] <;> first | rfl | (simp only [List.length_set] <;> rfl)), hw1.ext_out⟩
 refine Z489 ?_
 refine JL_qg (q_lenT Tryz.runUnderlying9) (k := ?_)
 refine JL_qg q_leq (k := ?_)
 refine Z18 ?_
 refine JL_dec 10 rfl (fun hq2 => ?_) (fun hq2 => ?_)
 rotate_left
 ·refine JL_skips 2 rfl ?_
  refine Z26 ?_
  refine JX_ret Tryz.results92 (Res.tmp rfl Res.nil) (fun w1 hw1 => ?_)
  exact ⟨(by rw [((hF.pos hq1).neg hq2).eq] <;> first | rfl | (simp only [List.length_set] <;> rfl)), hw1.ext_out⟩
 refine Z489 ?_
 refine JL_vg (c_callA Tryz.call130) (fun w1 hw1 => wRight_ok w1 (s := s)) (k := ?_)
 refine Z79 ?_
 refine JX_ret Tryz.results92 (Res.tmp rfl Res.nil) (fun w1 hw1 => ?_)
 exact ⟨(by rw [((hF.pos hq1).pos hq2).eq] <;> first | rfl | (simp only [List.length_set] <;> rfl)), hw1.ext_out⟩

theorem gIsCounted_ok (w : World) {t_1_rules_a : Option Addr} {t_1_rules_c : Nat} {t_1_creds_a : Option Addr} {t_1_creds_c : Nat} {t : (Tenant × Int)} (h_t_1_rules : Sl w eRule 5 t_1_rules_a t.1.rules) (h_t_1_creds : Sl w eCred 4 t_1_creds_a t.1.creds) : Val Tryz.prog 54 [(Value.agg [(vi t.1.handle.slot), (vi t.1.handle.gen), (vt t.1.name), (vi t.1.state), (vi t.1.version), (vs t_1_rules_a t.1.rules.length t_1_rules_c), (vs t_1_creds_a t.1.creds.length t_1_creds_c), (vi t.1.deadline), (vi t.2)].toArray)] w (Value.bool (gIsCounted t)) := by
 have hF := Is.refl (gIsCounted t)
 refine enter Tryz.func54 Tryz.ntmps54 (h := ?_)
 refine Z2 ?_
 refine JL_a noMk (a_box (l := [_, _, _, _, _, _, _, _, _])) (k := fun r1 hr1 => ?_)
 refine Z91 ?_
 refine Z512 ?_
 refine Z228 ?_
 refine Z328 ?_
 refine JL_dec 7 rfl (fun hq1 => ?_) (fun hq1 => ?_)
 rotate_left
 ·refine JL_skips 6 rfl ?_
  refine Z26 ?_
  refine JX_ret Tryz.results54 (Res.tmp rfl Res.nil) (fun w1 hw1 => ?_)
  exact ⟨(by rw [(hF.neg hq1).eq] <;> first | rfl | (simp only [List.length_set] <;> rfl)), hw1.ext_out⟩
 refine Z513 ?_
 refine Z373 ?_
 refine JL_qg (q_fld FO_88_1) (k := ?_)
 refine Z415 ?_
 refine Z79 ?_
 refine JX_ret Tryz.results54 (Res.tmp rfl Res.nil) (fun w1 hw1 => ?_)
 exact ⟨(by rw [(hF.pos hq1).eq] <;> first | rfl | (simp only [List.length_set] <;> rfl)), hw1.ext_out⟩

theorem gIsInState_ok (w : World) {t_1_rules_a : Option Addr} {t_1_rules_c : Nat} {t_1_creds_a : Option Addr} {t_1_creds_c : Nat} {t : (Tenant × Int)} (h_t_1_rules : Sl w eRule 5 t_1_rules_a t.1.rules) (h_t_1_creds : Sl w eCred 4 t_1_creds_a t.1.creds) : Val Tryz.prog 55 [(Value.agg [(vi t.1.handle.slot), (vi t.1.handle.gen), (vt t.1.name), (vi t.1.state), (vi t.1.version), (vs t_1_rules_a t.1.rules.length t_1_rules_c), (vs t_1_creds_a t.1.creds.length t_1_creds_c), (vi t.1.deadline), (vi t.2)].toArray)] w (Value.bool (gIsInState t)) := by
 have hF := Is.refl (gIsInState t)
 refine enter Tryz.func55 Tryz.ntmps55 (h := ?_)
 refine Z2 ?_
 refine JL_a noMk (a_box (l := [_, _, _, _, _, _, _, _, _])) (k := fun r1 hr1 => ?_)
 refine Z91 ?_
 refine Z512 ?_
 refine Z267 ?_
 refine Z328 ?_
 refine JL_dec 7 rfl (fun hq1 => ?_) (fun hq1 => ?_)
 rotate_left
 ·refine JL_skips 4 rfl ?_
  refine Z252 ?_
  refine Z252 ?_
  refine Z5 ?_
  refine JL_skips 10 rfl ?_
  refine Z26 ?_
  refine JX_ret Tryz.results55 (Res.tmp rfl Res.nil) (fun w1 hw1 => ?_)
  exact ⟨(by rw [(hF.neg hq1).eq] <;> first | rfl | (simp only [List.length_set] <;> rfl)), hw1.ext_out⟩
 refine Z513 ?_
 refine JL_qg (q_fld FO_52_2) (k := ?_)
 refine Z415 ?_
 refine Z18 ?_
 refine JL_dec 13 rfl (fun hq2 => ?_) (fun hq2 => ?_)
 rotate_left
 ·refine JL_skips 4 rfl ?_
  refine Z252 ?_
  refine Z5 ?_
  refine JL_skips 10 rfl ?_
  refine Z26 ?_
  refine JX_ret Tryz.results55 (Res.tmp rfl Res.nil) (fun w1 hw1 => ?_)
  exact ⟨(by rw [((hF.pos hq1).neg hq2).eq] <;> first | rfl | (simp only [List.length_set] <;> rfl)), hw1.ext_out⟩
 refine Z513 ?_
 refine Z260 ?_
 refine JL_qg q_geq (k := ?_)
 refine Z18 ?_
 refine JL_dec 19 rfl (fun hq3 => ?_) (fun hq3 => ?_)
 rotate_left
 ·refine JL_skips 4 rfl ?_
  refine Z5 ?_
  refine JL_skips 10 rfl ?_
  refine Z26 ?_
  refine JX_ret Tryz.results55 (Res.tmp rfl Res.nil) (fun w1 hw1 => ?_)
  exact ⟨(by rw [(((hF.pos hq1).pos hq2).neg hq3).eq] <;> first | rfl | (simp only [List.length_set] <;> rfl)), hw1.ext_out⟩
 refine Z513 ?_
 refine Z260 ?_
 refine JL_qg q_leq (k := ?_)
 refine Z18 ?_
 refine JL_dec 25 rfl (fun hq4 => ?_) (fun hq4 => ?_)
 rotate_left
 ·refine JL_skips 10 rfl ?_
  refine Z26 ?_
  refine JX_ret Tryz.results55 (Res.tmp rfl Res.nil) (fun w1 hw1 => ?_)
  exact ⟨(by rw [((((hF.pos hq1).pos hq2).pos hq3).neg hq4).eq] <;> first | rfl | (simp only [List.length_set] <;> rfl)), hw1.ext_out⟩
 refine Z513 ?_
 refine Z445 ?_
 refine Z489 ?_
 refine JL_dec 30 rfl (fun hq5 => ?_) (fun hq5 => ?_)
 ·refine JL_skips 4 rfl ?_
  refine Z514 ?_
  refine Z79 ?_
  refine JX_ret Tryz.results55 (Res.tmp rfl Res.nil) (fun w1 hw1 => ?_)
  exact ⟨(by rw [(((((hF.pos hq1).pos hq2).pos hq3).pos hq4).pos hq5).eq] <;> first | rfl | (simp only [List.length_set] <;> rfl)), hw1.ext_out⟩
 refine Z513 ?_
 refine Z309 ?_
 refine Z515 ?_
 refine Z79 ?_
 refine JX_ret Tryz.results55 (Res.tmp rfl Res.nil) (fun w1 hw1 => ?_)
 exact ⟨(by rw [(((((hF.pos hq1).pos hq2).pos hq3).pos hq4).neg hq5).eq] <;> first | rfl | (simp only [List.length_set] <;> rfl)), hw1.ext_out⟩

theorem gIsWhole_ok (w : World) {t_1_rules_a : Option Addr} {t_1_rules_c : Nat} {t_1_creds_a : Option Addr} {t_1_creds_c : Nat} {t : (Tenant × Int)} (h_t_1_rules : Sl w eRule 5 t_1_rules_a t.1.rules) (n_t_1_rules : t.1.rules.length ≤ 1000) (h_t_1_creds : Sl w eCred 4 t_1_creds_a t.1.creds) (n_t_1_creds : t.1.creds.length ≤ 1000) : Val Tryz.prog 56 [(Value.agg [(vi t.1.handle.slot), (vi t.1.handle.gen), (vt t.1.name), (vi t.1.state), (vi t.1.version), (vs t_1_rules_a t.1.rules.length t_1_rules_c), (vs t_1_creds_a t.1.creds.length t_1_creds_c), (vi t.1.deadline), (vi t.2)].toArray)] w (Value.bool (gIsWhole t)) := by
 have hF := Is.refl (gIsWhole t)
 refine enter Tryz.func56 Tryz.ntmps56 (h := ?_)
 refine Z2 ?_
 refine JL_a noMk (a_box (l := [_, _, _, _, _, _, _, _, _])) (k := fun r1 hr1 => ?_)
 refine Z91 ?_
 refine Z512 ?_
 refine Z268 ?_
 refine JL_v (c_callA Tryz.call92) (fun w1 hw1 => gIsName_ok w1 (s := t.1.name)) (k := ?_)
 refine Z481 ?_
 refine JL_bool 7 rfl (fun hq1 => ?_) (fun hq1 => ?_)
 rotate_left
 ·refine JL_skips 4 rfl ?_
  refine Z252 ?_
  refine Z26 ?_
  refine JX_ret Tryz.results56 (Res.tmp rfl Res.nil) (fun w1 hw1 => ?_)
  exact ⟨(by rw [(hF.f hq1).eq] <;> first | rfl | (simp only [List.length_set] <;> rfl)), hw1.ext_out⟩
 refine Z513 ?_
 refine Z312 ?_
 refine JL_vg (c_callA Tryz.call93) (fun w1 hw1 => aclRight_ok w1 (l := t.1.rules) (h_l := (SlJ.of_base h_t_1_rules) w1 hw1) (n_l := by first | exact lb | decide)) (k := ?_)
 refine Z18 ?_
 refine JL_bool 13 rfl (fun hq2 => ?_) (fun hq2 => ?_)
 rotate_left
 ·refine JL_skips 4 rfl ?_
  refine Z26 ?_
  refine JX_ret Tryz.results56 (Res.tmp rfl Res.nil) (fun w1 hw1 => ?_)
  exact ⟨(by rw [((hF.t hq1).f hq2).eq] <;> first | rfl | (simp only [List.length_set] <;> rfl)), hw1.ext_out⟩
 refine Z513 ?_
 refine Z313 ?_
 refine JL_vg (c_callA Tryz.call57) (fun w1 hw1 => cRight_ok w1 (l := t.1.creds) (h_l := (SlJ.of_base h_t_1_creds) w1 hw1) (n_l := by first | exact lb | decide)) (k := ?_)
 refine Z79 ?_
 refine JX_ret Tryz.results56 (Res.tmp rfl Res.nil) (fun w1 hw1 => ?_)
 exact ⟨(by rw [((hF.t hq1).t hq2).eq] <;> first | rfl | (simp only [List.length_set] <;> rfl)), hw1.ext_out⟩

theorem gPlace_ok (w : World) {r_slots_gens_a : Option Addr} {r_slots_gens_c : Nat} {r_slots_used_a : Option Addr} {r_slots_used_c : Nat} {r_slots_free_a : Option Addr} {r_slots_free_c : Nat} {r_l_a : Option Addr} {r_l_c : Nat} {r_l_t : List TA} {r : Registry} {name : Str} (h_r_slots_gens : Sl w eI 1 r_slots_gens_a r.slots.gens) (n_r_slots_gens : r.slots.gens.length ≤ 1000) (h_r_slots_used : Sl w eB 1 r_slots_used_a r.slots.used) (n_r_slots_used : r.slots.used.length ≤ 1000) (h_r_slots_free : Sl w eI 1 r_slots_free_a r.slots.free) (n_r_slots_free : r.slots.free.length ≤ 1000) (h_r_l : SlN w eTenant 8 DT r_l_a r.l r_l_t) (n_r_l : r.l.length ≤ 1000) (k_r_l : r.l.length ≤ r_l_c) : Val Tryz.prog 46 [(Value.agg [(vs r_slots_gens_a r.slots.gens.length r_slots_gens_c), (vs r_slots_used_a r.slots.used.length r_slots_used_c), (vs r_slots_free_a r.slots.free.length r_slots_free_c), (vs r_l_a r.l.length r_l_c), (vi r.seq)].toArray), (vt name)] w (Value.tuple [(vi ((gPlace r name).1)), (Value.bool ((gPlace r name).2))].toArray) := by
 have hF := Is.refl (gPlace r name)
 refine enterD Tryz.func46 Tryz.ntmps46 (h := ?_)
 refine Z2 ?_
 refine JL_a noMk (a_box (l := [_, _, _, _, _])) (k := fun r1 hr1 => ?_)
 refine JL_a noMk (a_box (l := [_])) (k := fun r2 hr2 => ?_)
 refine JL_a noMk (a_alloc (l := [_]) Tryz.zeroValue3) (k := fun r3 hr3 => ?_)
 refine JL_a noMk (a_alloc (l := [_]) Tryz.zeroValue4) (k := fun r4 hr4 => ?_)
 refine Z72 ?_
 refine Z284 ?_
 refine Z2 ?_
 refine JL_a noMk (a_box (l := [_, _, _, _, _])) (k := fun r5 hr5 => ?_)
 refine Z438 ?_
 refine Z357 ?_
 refine J_rangeI noMk rfl Tryz.call85 Tryz.func85 Tryz.ntmps85 (fun l6 rD6 rr6 hl6 => ?_)
 refine Z439 ?_
 refine Z324 ?_
 refine Z121 ?_
 refine J_loop2 (σ1 := Nat) (σ2 := Nat) (fun n_2 x_1 => ((l6, loopAt rr6 .ready none) :: ((rD6, Obj.deferred (some [])) :: ((r5, oc [(vs r_slots_gens_a r.slots.gens.length r_slots_gens_c), (vs r_slots_used_a r.slots.used.length r_slots_used_c), (vs r_slots_free_a r.slots.free.length r_slots_free_c), (vs r_l_a r.l.length r_l_c), (vi r.seq)] 28) :: ((r4, oc [(Value.bool false)] 4) :: ((r3, oc [(vi 0)] 3) :: ((r2, oc [(vt name)] 9) :: ((r1, oc [(vs r_slots_gens_a r.slots.gens.length r_slots_gens_c), (vs r_slots_used_a r.slots.used.length r_slots_used_c), (vs r_slots_free_a r.slots.free.length r_slots_free_c), (vs r_l_a r.l.length r_l_c), (vi r.seq)] 28) :: [])))))))) (fun n_2 x_1 => [(0, (Value.func (.yield l6) [].toArray [].toArray)), (1, (Value.pointer (some ⟨r5, 0, none⟩))), (6, (vs r_l_a r.l.length r_l_c)), (7, (vi ((r.l.length : Nat) : Int))), (8, (vi ((x_1 : Nat) : Int)))]) (fun n_2 x_1 => r.l.length - x_1 < n_2 ∧ Is (gPlace_l0 r name (r.l.length + 1) 0) (gPlace_l0 r name n_2 x_1) ∧ x_1 ≤ r.l.length) (fun n_2 x_1 => n_2) (r.l.length + 1) 0 ?_ se (List.Perm.refl _) ?_
 ·exact ⟨Nat.lt_succ_self _, Is.refl _, (by first | omega | rfl | (simp; done))⟩
 ·rintro (_ | n_2) x_1 ⟨hm4, hF3, hi5⟩
  ·omega
  refine Z38 ?_
  refine J_dec rfl (fun hq1 => ?_) (fun hq1 => ?_)
  rotate_left
  ·refine J_exit ?_
   refine Z191 ?_
   refine JX_it0 (.inr rfl) Tryz.results85 q0 ?_
   refine Z452 ?_
   refine Z491 ?_
   refine Z153 ?_
   refine JX_retD [rD6] (qa q0) Tryz.results46 (Res.word Tryz.isAgg3 rfl me rfl (Res.word Tryz.isAgg4 rfl me rfl Res.nil)) (fun w1 hw1 => ?_)
   exact ⟨(by rw [(hF.ok1 (hF3.neg hq1)).eq] <;> first | rfl | (simp only [List.length_set] <;> rfl)), hw1.ext_out⟩
  refine Z460 ?_
  refine Z185 ?_
  have hcp2 := (h_r_l.2.2 x_1 (by first | exact ix)).2.2.1
  have hcp3 := (h_r_l.2.2 x_1 (by first | exact ix)).2.2.2
  refine Z516 ?_
  refine JL_a noMk (a_alloc (l := [_, _, _, _, _, _, _, _]) Tryz.zeroValue52) (k := fun r7 hr7 => ?_)
  refine Z429 ?_
  refine Z39 ?_
  refine Z343 ?_
  refine JL_yIn (vs := [(vi ((x_1 : Nat) : Int)), (Value.agg [(vi ((r.l.getD x_1 default).handle.slot)), (vi ((r.l.getD x_1 default).handle.gen)), (vt ((r.l.getD x_1 default).name)), (vi ((r.l.getD x_1 default).state)), (vi ((r.l.getD x_1 default).version)), (vs ((r_l_t.getD x_1 default).ra) ((r.l.getD x_1 default).rules.length) ((r_l_t.getD x_1 default).rc)), (vs ((r_l_t.getD x_1 default).ca) ((r.l.getD x_1 default).creds.length) ((r_l_t.getD x_1 default).cc)), (vi ((r.l.getD x_1 default).deadline)), (vi r.seq)].toArray)]) hl6 (qa q0) y_call ?_
  refine Z2 ?_
  refine Z1 ?_
  refine Z486 ?_
  refine JL_a noMk (a_alloc (l := [_, _, _, _, _, _, _, _, _]) Tryz.zeroValue88) (k := fun r8 hr8 => ?_)
  refine Z266 ?_
  refine Z106 ?_
  refine Z2 ?_
  refine Z512 ?_
  refine Z268 ?_
  refine Z506 ?_
  refine JL_q q_eqT (k := ?_)
  refine Z0 ?_
  refine J_dec rfl (fun hq4 => ?_) (fun hq4 => ?_)
  rotate_left
  ·refine J_skip ?_
   refine JX_block ?_
   refine JX_roundI q0 ?_
   refine Z326 ?_
   refine Z306 ?_
   refine JX_permL _ (((((((qa (qa (qa (qa (qa (qa (qa (qa q0)))))))).trans (qa (qa (qa (qa (qa (qa (qa (qa q0))))))))).trans (qa (qa (qa (qa (qa (qa (qa (qa q0))))))))).trans (qa (qa (qa (qa (qa (qa (qa (qa q0))))))))).trans (qa (qa (qa (qa (qa (qa (qa (qa q0))))))))).trans (qa (qa (qa (qa (qa (qa (qa (qa q0))))))))).trans (qa (qa (qa (qa (qa (qa q0))))))) ?_
   refine JX_subL _ (List.Sublist.cons_cons _ (List.Sublist.cons_cons _ (List.Sublist.cons_cons _ (List.Sublist.cons_cons _ (List.Sublist.cons_cons _ (List.Sublist.cons_cons _ (List.Sublist.cons_cons _ (List.nil_sublist _)))))))) ?_
   exact JX_inv2 n_2 (x_1 + 1) ⟨by omega, ((hF3.pos hq1).neg hq4), (by omega)⟩ (Nat.lt_succ_self _) se (List.Perm.refl _)
  refine Z4 ?_
  refine Z491 ?_
  refine Z153 ?_
  refine JX_block_ret ?_
  refine JX_roundI_ret q0 ?_
  refine Z416 ?_
  refine Z397 ?_
  refine Z191 ?_
  refine Z339 ?_
  refine Z8 ?_
  refine JX_retD [rD6] (qa (qa (qa q0))) Tryz.results46 (Res.word Tryz.isAgg3 rfl me rfl (Res.word Tryz.isAgg4 rfl me rfl Res.nil)) (fun w1 hw1 => ?_)
  exact ⟨(by rw [(hF.er1 ((hF3.pos hq1).pos hq4)).eq] <;> first | rfl | (simp only [List.length_set] <;> rfl)), hw1.ext_out⟩

theorem gRight_ok (w : World) {r_slots_gens_a : Option Addr} {r_slots_gens_c : Nat} {r_slots_used_a : Option Addr} {r_slots_used_c : Nat} {r_slots_free_a : Option Addr} {r_slots_free_c : Nat} {r_l_a : Option Addr} {r_l_c : Nat} {r_l_t : List TA} {r : Registry} (h_r_slots_gens : Sl w eI 1 r_slots_gens_a r.slots.gens) (n_r_slots_gens : r.slots.gens.length ≤ 1000) (h_r_slots_used : Sl w eB 1 r_slots_used_a r.slots.used) (n_r_slots_used : r.slots.used.length ≤ 1000) (h_r_slots_free : Sl w eI 1 r_slots_free_a r.slots.free) (n_r_slots_free : r.slots.free.length ≤ 1000) (h_r_l : SlN w eTenant 8 DT r_l_a r.l r_l_t) (n_r_l : r.l.length ≤ 1000) (k_r_l : r.l.length ≤ r_l_c) (hsm : Small r.l) : Val Tryz.prog 23 [(Value.agg [(vs r_slots_gens_a r.slots.gens.length r_slots_gens_c), (vs r_slots_used_a r.slots.used.length r_slots_used_c), (vs r_slots_free_a r.slots.free.length r_slots_free_c), (vs r_l_a r.l.length r_l_c), (vi r.seq)].toArray)] w (Value.bool (gRight r)) := by
 have hF := Is.refl (gRight r)
 refine enterD Tryz.func23 Tryz.ntmps23 (h := ?_)
 refine Z2 ?_
 refine JL_a noMk (a_box (l := [_, _, _, _, _])) (k := fun r1 hr1 => ?_)
 refine JL_a noMk (a_alloc (l := [_]) Tryz.zeroValue4) (k := fun r2 hr2 => ?_)
 refine Z320 ?_
 refine Z224 ?_
 refine JL_p (c_callA Tryz.call48) (fun w1 hw1 => sAll_ok w1 (s := r.slots) (h_s_gens := (SlJ.of_base h_r_slots_gens) w1 hw1) (n_s_gens := by first | exact lb | decide) (h_s_used := (SlJ.of_base h_r_slots_used) w1 hw1) (n_s_used := by first | exact lb | decide) (h_s_free := (SlJ.of_base h_r_slots_free) w1 hw1) (n_s_free := by first | exact lb | decide)) (k := ?_)
 rintro w1_1 e1_1 w2_1 hw1_1 ⟨a1_1, c1_1, B_1, he_1, hf_1, hs1_1, hl1_1⟩
 refine ⟨_, _, he_1, hw1_1.fresh hf_1, ?_⟩
 refine JL_a noMk (a_alloc (l := [_]) Tryz.zeroValue90) (k := fun r3 hr3 => ?_)
 refine JL_s (w_store (l' := [_]) Tryz.sizeOf90) (k := ?_)
 refine Z72 ?_
 refine Z2 ?_
 refine Z224 ?_
 refine JL_v (c_callA Tryz.call52) (fun w1 hw1 => sRight_ok w1 (s := r.slots) (h_s_gens := (SlJ.of_base h_r_slots_gens) w1 hw1) (n_s_gens := by first | exact lb | decide) (h_s_used := (SlJ.of_base h_r_slots_used) w1 hw1) (n_s_used := by first | exact lb | decide) (h_s_free := (SlJ.of_base h_r_slots_free) w1 hw1) (n_s_free := by first | exact lb | decide)) (k := ?_)
 refine Z484 ?_
 refine Z481 ?_
 refine JL_bool 14 rfl (fun hq1 => ?_) (fun hq1 => ?_)
 ·refine JL_skips 3 rfl ?_
  refine Z241 ?_
  refine Z18 ?_
  refine JL_skips 6 rfl ?_
  refine Z285 ?_
  refine Z399 ?_
  refine JX_retD [] (List.Perm.refl _) Tryz.results23 (Res.word Tryz.isAgg4 rfl me rfl Res.nil) (fun w1 hw1 => ?_)
  exact ⟨(by rw [(hF.t hq1).eq] <;> first | rfl | (simp only [List.length_set] <;> rfl)), hw1.ext_out⟩
 have hfhq1 := sRight_t (by simpa using hq1)
 refine Z157 ?_
 refine JL_qg q_lss (k := ?_)
 refine Z5 ?_
 refine JL_dec 19 rfl (fun hq2 => ?_) (fun hq2 => ?_)
 ·refine JL_skips 3 rfl ?_
  refine Z18 ?_
  refine JL_skips 6 rfl ?_
  refine Z285 ?_
  refine Z399 ?_
  refine JX_retD [] (List.Perm.refl _) Tryz.results23 (Res.word Tryz.isAgg4 rfl me rfl Res.nil) (fun w1 hw1 => ?_)
  exact ⟨(by rw [((hF.f hq1).pos hq2).eq] <;> first | rfl | (simp only [List.length_set] <;> rfl)), hw1.ext_out⟩
 refine Z157 ?_
 refine JL_qg q_gtr (k := ?_)
 refine Z5 ?_
 refine JL_dec 24 rfl (fun hq3 => ?_) (fun hq3 => ?_)
 ·refine JL_skips 6 rfl ?_
  refine Z285 ?_
  refine Z399 ?_
  refine JX_retD [] (List.Perm.refl _) Tryz.results23 (Res.word Tryz.isAgg4 rfl me rfl Res.nil) (fun w1 hw1 => ?_)
  exact ⟨(by rw [(((hF.f hq1).neg hq2).pos hq3).eq] <;> first | rfl | (simp only [List.length_set] <;> rfl)), hw1.ext_out⟩
 refine JL_qg (q_load Tryz.isAgg90) (k := ?_)
 refine JL_qg (q_lenS Tryz.runUnderlying90) (k := ?_)
 refine Z436 ?_
 refine JL_qg q_neq (k := ?_)
 refine Z247 ?_
 refine J_dec rfl (fun hq4 => ?_) (fun hq4 => ?_)
 ·refine J_seq ?_
  refine Z486 ?_
  refine Z399 ?_
  refine JX_retD [] (List.Perm.refl _) Tryz.results23 (Res.word Tryz.isAgg4 rfl me rfl Res.nil) (fun w1 hw1 => ?_)
  exact ⟨(by rw [((((hF.f hq1).neg hq2).neg hq3).pos hq4).eq] <;> first | rfl | (simp only [List.length_set] <;> rfl)), hw1.ext_out⟩
 refine Z390 ?_
 refine JL_a noMk a_map (k := fun r4 hr4 => ?_)
 refine JL_a noMk (a_alloc (l := [_]) Tryz.zeroValue101) (k := fun r5 hr5 => ?_)
 refine JL_s (w_store (l' := [_]) Tryz.sizeOf101) (k := ?_)
 refine Z72 ?_
 refine Z284 ?_
 refine Z2 ?_
 refine JL_a noMk (a_box (l := [_, _, _, _, _])) (k := fun r6 hr6 => ?_)
 refine Z438 ?_
 refine Z357 ?_
 refine J_rangeI noMk rfl Tryz.call85 Tryz.func85 Tryz.ntmps85 (fun l7 rD7 rr7 hl7 => ?_)
 refine Z439 ?_
 refine Z324 ?_
 refine Z121 ?_
 refine J_loop5 (σ1 := Nat) (σ2 := Nat) (σ3 := List Str) (σ4 := Array MapEntry) (σ5 := Nat) (fun n_3 x_1 x_2 x_2e x_2k => ((l7, loopAt rr7 .ready none) :: ((rD7, Obj.deferred (some [])) :: ((r6, oc [(vs r_slots_gens_a r.slots.gens.length r_slots_gens_c), (vs r_slots_used_a r.slots.used.length r_slots_used_c), (vs r_slots_free_a r.slots.free.length r_slots_free_c), (vs r_l_a r.l.length r_l_c), (vi r.seq)] 28) :: ((r5, oc [(Value.map (some r4))] 101) :: ((r4, Obj.map x_2e x_2k) :: ((r3, oc [(vs a1_1 ((sAll r.slots).length) c1_1)] 90) :: (B_1 ++ ((r2, oc [(Value.bool false)] 4) :: ((r1, oc [(vs r_slots_gens_a r.slots.gens.length r_slots_gens_c), (vs r_slots_used_a r.slots.used.length r_slots_used_c), (vs r_slots_free_a r.slots.free.length r_slots_free_c), (vs r_l_a r.l.length r_l_c), (vi r.seq)] 28) :: [])))))))))) (fun n_3 x_1 x_2 x_2e x_2k => [(0, (Value.func (.yield l7) [].toArray [].toArray)), (1, (Value.pointer (some ⟨r6, 0, none⟩))), (6, (vs r_l_a r.l.length r_l_c)), (7, (vi ((r.l.length : Nat) : Int))), (8, (vi ((x_1 : Nat) : Int)))]) (fun n_3 x_1 x_2 x_2e x_2k => r.l.length - x_1 < n_3 ∧ Is (gRight_l0 r (r.l.length + 1) 0 ([] : List Str)) (gRight_l0 r n_3 x_1 x_2) ∧ MSet (fun s : Str => Value.string (bs s)) x_2e x_2 ∧ x_1 ≤ r.l.length) (fun n_3 x_1 x_2 x_2e x_2k => n_3) (r.l.length + 1) 0 ([] : List Str) (#[]) 0 ?_ se (List.Perm.refl _) ?_
 ·exact ⟨Nat.lt_succ_self _, Is.refl _, MSet.nil, (by first | omega | rfl | (simp; done))⟩
 ·rintro (_ | n_3) x_1 x_2 x_2e x_2k ⟨hm5, hF4, hx_2, hi6⟩
  ·omega
  refine Z38 ?_
  refine J_dec rfl (fun hq5 => ?_) (fun hq5 => ?_)
  rotate_left
  ·refine J_exit ?_
   refine Z191 ?_
   refine JX_it0 (.inr rfl) Tryz.results85 q0 ?_
   refine Z452 ?_
   refine Z153 ?_
   refine JX_retD [rD7] (qa q0) Tryz.results23 (Res.word Tryz.isAgg4 rfl me rfl Res.nil) (fun w1 hw1 => ?_)
   exact ⟨(by rw [(((((hF.f hq1).neg hq2).neg hq3).neg hq4).ok2 (hF4.neg hq5)).eq] <;> first | rfl | (simp only [List.length_set] <;> rfl)), hw1.ext_out⟩
  refine Z460 ?_
  refine Z185 ?_
  have hcp6 := (h_r_l.2.2 x_1 (by first | exact ix)).2.2.1
  have hcp7 := (h_r_l.2.2 x_1 (by first | exact ix)).2.2.2
  refine Z516 ?_
  refine JL_a noMk (a_alloc (l := [_, _, _, _, _, _, _, _]) Tryz.zeroValue52) (k := fun r8 hr8 => ?_)
  refine Z429 ?_
  refine Z39 ?_
  refine Z343 ?_
  refine JL_yIn (vs := [(vi ((x_1 : Nat) : Int)), (Value.agg [(vi ((r.l.getD x_1 default).handle.slot)), (vi ((r.l.getD x_1 default).handle.gen)), (vt ((r.l.getD x_1 default).name)), (vi ((r.l.getD x_1 default).state)), (vi ((r.l.getD x_1 default).version)), (vs ((r_l_t.getD x_1 default).ra) ((r.l.getD x_1 default).rules.length) ((r_l_t.getD x_1 default).rc)), (vs ((r_l_t.getD x_1 default).ca) ((r.l.getD x_1 default).creds.length) ((r_l_t.getD x_1 default).cc)), (vi ((r.l.getD x_1 default).deadline)), (vi r.seq)].toArray)]) hl7 (qa q0) y_call ?_
  refine Z2 ?_
  refine Z1 ?_
  refine Z486 ?_
  refine JL_a noMk (a_alloc (l := [_, _, _, _, _, _, _, _, _]) Tryz.zeroValue88) (k := fun r9 hr9 => ?_)
  refine Z266 ?_
  refine Z106 ?_
  refine J_seq ?_
  refine J_seq ?_
  refine J_plan mixed 21 [(true, 0), (true, 1), (true, 2), (true, 3), (true, 4), (true, 5), (true, 6), (true, 7), (true, 8), (true, 9), (true, 10), (true, 11), (true, 12), (true, 13), (true, 14), (true, 15), (true, 16), (false, 17), (false, 18), (true, 19), (true, 20)] (by kernel_rfl) ?_
  refine JD_q (q_fld FO_88_0) (k := ?_)
  refine JD_q (q_fld FO_52_0) (k := ?_)
  refine JD_q (q_loadA Tryz.isAgg42 Tryz.sizeOf42) (k := ?_)
  refine JD_q (q_load Tryz.isAgg90) (k := ?_)
  refine Z483 ?_
  refine JD_q (q_idx (n := (sAll r.slots).length) Tryz.runUnderlying90 Tryz.sizeOf42 x_1 (SlB.slj hs1_1) (gD (by first | exact ix)) (by first | rfl | simp)) (k := ?_)
  refine JD_q (q_loadEA Tryz.isAgg42 Tryz.sizeOf42 x_1 (SlB.slj hs1_1) (gD (by first | exact ix))) (k := ?_)
  refine JD_q (q_neS (NE_42 _ _ _ _ _ _)) (k := ?_)
  refine Z483 ?_
  refine JD_dec 45 rfl (fun hq8 => ?_) (fun hq8 => ?_)
  ·refine JD_skips 5 rfl ?_
   refine Z54 ?_
   refine JD_skips 4 rfl ?_
   refine Z92 ?_
   refine Z200 ?_
   refine Z399 ?_
   refine JX_block_ret ?_
   refine JX_roundI_ret q0 ?_
   refine Z416 ?_
   refine Z397 ?_
   refine Z191 ?_
   refine Z339 ?_
   refine Z8 ?_
   refine JX_retD [rD7] (qa (qa (qa q0))) Tryz.results23 (Res.word Tryz.isAgg4 rfl me rfl Res.nil) (fun w1 hw1 => ?_)
   exact ⟨(by rw [(((((hF.f hq1).neg hq2).neg hq3).neg hq4).er2 ((hF4.pos hq5).pos hq8)).eq] <;> first | rfl | (simp only [List.length_set] <;> rfl)), hw1.ext_out⟩
  refine JD_qg (q_load Tryz.isAgg101) (k := ?_)
  refine JD_qg (q_fld FO_88_0) (k := ?_)
  refine Z223 ?_
  refine JD_qg (q_inSetD (xs := x_2) ((r.l.getD x_1 default).name) keyStr Tryz.runUnderlying101 Tryz.runUnderlying9 Tryz.zeroValue4 hx_2) (k := ?_)
  refine Z23 ?_
  refine JD_dec 52 rfl (fun hq9 => ?_) (fun hq9 => ?_)
  ·refine JD_skips 4 rfl ?_
   refine Z92 ?_
   refine Z200 ?_
   refine Z399 ?_
   refine JX_block_ret ?_
   refine JX_roundI_ret q0 ?_
   refine Z416 ?_
   refine Z397 ?_
   refine Z191 ?_
   refine Z339 ?_
   refine Z8 ?_
   refine JX_retD [rD7] (qa (qa (qa q0))) Tryz.results23 (Res.word Tryz.isAgg4 rfl me rfl Res.nil) (fun w1 hw1 => ?_)
   exact ⟨(by rw [(((((hF.f hq1).neg hq2).neg hq3).neg hq4).er2 (((hF4.pos hq5).neg hq8).pos hq9)).eq] <;> first | rfl | (simp only [List.length_set] <;> rfl)), hw1.ext_out⟩
  refine JD_qg (q_loadA Tryz.isAgg88 Tryz.sizeOf88) (k := ?_)
  refine JD_ag noMk (a_bslice (l := [_, _, _]) Tryz.runUnderlying139 Tryz.sizeOf103 Tryz.zeroValue103) (k := fun r10 hr10 => ?_)
  refine JD_inlg (args := [_, _]) (c_callA Tryz.call53) Tryz.func53 Tryz.ntmps53 ?_
  refine Z2 ?_
  refine JL_a noMk (a_box (l := [_, _, _, _, _, _, _, _, _])) (k := fun r11 hr11 => ?_)
  refine Z104 ?_
  refine JL_q (q_lenS Tryz.runUnderlying139) (k := ?_)
  refine Z283 ?_
  refine Z69 ?_
  refine JL_q (q_idxO Tryz.runUnderlying139 Tryz.sizeOf103 0) (k := ?_)
  refine JL_q (q_load Tryz.isAgg103) (k := ?_)
  refine Z107 ?_
  refine JL_q (q_loadA Tryz.isAgg88 Tryz.sizeOf88) (k := ?_)
  refine JL_v (c_callA Tryz.call54) (fun w1 hw1 => gIsCounted_ok w1 (t := ((r.l.getD x_1 default), r.seq)) (h_t_1_rules := (fun w hw => ((SlNJ.of_base DT_ok h_r_l).at (m := x_1) (by first | exact ix) w hw).1) w1 hw1) (h_t_1_creds := (fun w hw => ((SlNJ.of_base DT_ok h_r_l).at (m := x_1) (by first | exact ix) w hw).2.1) w1 hw1)) (k := ?_)
  refine Z189 ?_
  refine J_cond rfl (fun hq10 => ?_) (fun hq10 => ?_)
  ·refine J_seq ?_
   refine Z486 ?_
   refine Z105 ?_
   refine Z215 ?_
   refine Z166 ?_
   refine Z200 ?_
   refine Z399 ?_
   refine JX_block_ret ?_
   refine JX_roundI_ret (qa (qa q0)) ?_
   refine Z416 ?_
   refine Z397 ?_
   refine Z191 ?_
   refine Z339 ?_
   refine Z8 ?_
   refine JX_retD [rD7] (qa (qa (qa (qa (qa q0))))) Tryz.results23 (Res.word Tryz.isAgg4 rfl me rfl Res.nil) (fun w1 hw1 => ?_)
   exact ⟨(by rw [(((((hF.f hq1).neg hq2).neg hq3).neg hq4).er2 ((((hF4.pos hq5).neg hq8).neg hq9).t hq10)).eq] <;> first | rfl | (simp only [List.length_set] <;> rfl)), hw1.ext_out⟩
  refine Z100 ?_
  refine JL_q (q_idxO Tryz.runUnderlying139 Tryz.sizeOf103 1) (k := ?_)
  refine JL_q (q_load Tryz.isAgg103) (k := ?_)
  refine Z107 ?_
  refine JL_q (q_loadA Tryz.isAgg88 Tryz.sizeOf88) (k := ?_)
  refine JL_v (c_callA Tryz.call55) (fun w1 hw1 => gIsInState_ok w1 (t := ((r.l.getD x_1 default), r.seq)) (h_t_1_rules := (fun w hw => ((SlNJ.of_base DT_ok h_r_l).at (m := x_1) (by first | exact ix) w hw).1) w1 hw1) (h_t_1_creds := (fun w hw => ((SlNJ.of_base DT_ok h_r_l).at (m := x_1) (by first | exact ix) w hw).2.1) w1 hw1)) (k := ?_)
  refine Z189 ?_
  refine J_cond rfl (fun hq11 => ?_) (fun hq11 => ?_)
  ·refine J_seq ?_
   refine Z486 ?_
   refine Z105 ?_
   refine Z215 ?_
   refine Z166 ?_
   refine Z200 ?_
   refine Z399 ?_
   refine JX_block_ret ?_
   refine JX_roundI_ret (qa (qa q0)) ?_
   refine Z416 ?_
   refine Z397 ?_
   refine Z191 ?_
   refine Z339 ?_
   refine Z8 ?_
   refine JX_retD [rD7] (qa (qa (qa (qa (qa q0))))) Tryz.results23 (Res.word Tryz.isAgg4 rfl me rfl Res.nil) (fun w1 hw1 => ?_)
   exact ⟨(by rw [(((((hF.f hq1).neg hq2).neg hq3).neg hq4).er2 (((((hF4.pos hq5).neg hq8).neg hq9).f hq10).t hq11)).eq] <;> first | rfl | (simp only [List.length_set] <;> rfl)), hw1.ext_out⟩
  refine Z100 ?_
  refine JL_q (q_idxO Tryz.runUnderlying139 Tryz.sizeOf103 2) (k := ?_)
  refine JL_q (q_load Tryz.isAgg103) (k := ?_)
  refine Z107 ?_
  refine JL_q (q_loadA Tryz.isAgg88 Tryz.sizeOf88) (k := ?_)
  refine JL_v (c_callA Tryz.call56) (fun w1 hw1 => gIsWhole_ok w1 (t := ((r.l.getD x_1 default), r.seq)) (h_t_1_rules := (fun w hw => ((SlNJ.of_base DT_ok h_r_l).at (m := x_1) (by first | exact ix) w hw).1) w1 hw1) (n_t_1_rules := by first | omega | (simp; done) | exact (hsm _ (by omega)).1 | exact (hsm _ (by omega)).2) (h_t_1_creds := (fun w hw => ((SlNJ.of_base DT_ok h_r_l).at (m := x_1) (by first | exact ix) w hw).2.1) w1 hw1) (n_t_1_creds := by first | omega | (simp; done) | exact (hsm _ (by omega)).1 | exact (hsm _ (by omega)).2)) (k := ?_)
  refine Z189 ?_
  refine J_cond rfl (fun hq12 => ?_) (fun hq12 => ?_)
  ·refine J_seq ?_
   refine Z486 ?_
   refine Z105 ?_
   refine Z215 ?_
   refine Z166 ?_
   refine Z200 ?_
   refine Z399 ?_
   refine JX_block_ret ?_
   refine JX_roundI_ret (qa (qa q0)) ?_
   refine Z416 ?_
   refine Z397 ?_
   refine Z191 ?_
   refine Z339 ?_
   refine Z8 ?_
   refine JX_retD [rD7] (qa (qa (qa (qa (qa q0))))) Tryz.results23 (Res.word Tryz.isAgg4 rfl me rfl Res.nil) (fun w1 hw1 => ?_)
   exact ⟨(by rw [(((((hF.f hq1).neg hq2).neg hq3).neg hq4).er2 ((((((hF4.pos hq5).neg hq8).neg hq9).f hq10).f hq11).t hq12)).eq] <;> first | rfl | (simp only [List.length_set] <;> rfl)), hw1.ext_out⟩
  refine Z250 ?_
  refine Z272 ?_
  refine Z215 ?_
  refine Z166 ?_
  refine Z49 ?_
  refine Z14 ?_
  refine Z486 ?_
  refine JL_q (q_load Tryz.isAgg101) (k := ?_)
  refine Z512 ?_
  refine Z268 ?_
  refine JL_sput (xs := x_2) ((r.l.getD x_1 default).name) keyStr Tryz.runUnderlying101 Tryz.runUnderlying9 hx_2 (by assumption) (qa (qa (qa (qa (qa (qa (qa (qa q0)))))))) (k := fun em3 km3 hms3 => ?_)
  refine JL_nil ?_
  refine JX_block ?_
  refine JX_roundI (qa (qa (qa q0))) ?_
  refine Z326 ?_
  refine Z306 ?_
  refine JX_permL _ (((((((((qa (qa (qa (qa (qa (qa (qa (qa (qa (qa (qc (qa q0)))))))))))).trans (qa (qa (qa (qa (qa (qa (qa (qa (qa (qa (qa (qc q0))))))))))))).trans (qb (qb (qb (qb (qb (qb (qb (qb (qb (qb (qb (qb q0))))))))))))).trans (qc (qa (qa (qa (qa (qa (qa (qa (qa (qa (qa (qa q0))))))))))))).trans (qa (qc (qa (qa (qa q0)))))).trans (qa (qa (qc (qa (qa (qa (qa (qa (qa (qa (qa (qa q0))))))))))))).trans (qa (qa (qa (qc (qa (qa (qa (qa (qa (qa (qa (qa q0))))))))))))).trans (qa (qa (qa (qa (qc (qa (qa (qa (qa (qa (qa (qa q0))))))))))))).trans (qa (qa (qa (qa (qa (qc (qa (qa q0))))))))) ?_
  refine JX_subL _ (List.Sublist.cons_cons _ (List.Sublist.cons_cons _ (List.Sublist.cons_cons _ (List.Sublist.cons_cons _ (List.Sublist.cons_cons _ (List.Sublist.cons_cons _ (List.Sublist.append (List.Sublist.refl _) (List.Sublist.cons_cons _ (List.Sublist.cons_cons _ (List.nil_sublist _)))))))))) ?_
  exact JX_inv5 n_3 (x_1 + 1) (x_2 ++ [((r.l.getD x_1 default).name)]) em3 km3 ⟨by omega, ((((((hF4.pos hq5).neg hq8).neg hq9).f hq10).f hq11).f hq12), hms3, (by omega)⟩ (Nat.lt_succ_self _) se (List.Perm.refl _)

end Go.Proofs.YtopjaeoklkpcpaaGreatDoor.Jd

namespace Go.Proofs.YtopjaeoklkpcpaaGreatDoor
open Go.Proofs Go.Proofs.YtopjaeoklkpcpaaGreatDoor.Jd
open Go.ChangeShapes Go.WideShapes Go.ChangeAt Go.RowKit Go.ChangeMaps
set_option maxRecDepth 100000
set_option linter.unusedVariables false
set_option linter.unusedSimpArgs false
theorem laidOut : laidOutB Tryz.prog = true := by kernel_rfl
theorem own' : ownKnob Tryz.prog.godebug = none := by kernel_rfl
section
variable {H : Type} {enc : TypeId × Value → H} {W : World}
theorem open_22 {n : Nat} {cs : List Value} {y : DataW H × List MemPlace} (h : DataW.trod enc Tryz.prog W 0 (fun _ => true) true n 22 cs = some y) : ∃ v0 : Option Addr, ∃ v1 : Nat, ∃ v2 : List Int, cs = [Value.slice v0 v2.length v1] ∧ v2.length ≤ v1 ∧ Sl W eI 1 v0 v2 := by
  obtain ⟨a, c, xs, h1, h2, h3⟩ := open_sl (enc := eI) (k := 1) Tryz.underlying22 (by kernel_rfl) eI_ok (opens_int Tryz.underlying3) h
  exact ⟨a, c, xs, h1, h2, h3⟩
theorem open_23 {n : Nat} {cs : List Value} {y : DataW H × List MemPlace} (h : DataW.trod enc Tryz.prog W 0 (fun _ => true) true n 23 cs = some y) : ∃ v0 : Option Addr, ∃ v1 : Nat, ∃ v2 : List Bool, cs = [Value.slice v0 v2.length v1] ∧ v2.length ≤ v1 ∧ Sl W eB 1 v0 v2 := by
  obtain ⟨a, c, xs, h1, h2, h3⟩ := open_sl (enc := eB) (k := 1) Tryz.underlying23 (by kernel_rfl) eB_ok (opens_bool Tryz.underlying4) h
  exact ⟨a, c, xs, h1, h2, h3⟩
theorem open_25 {n : Nat} {cs : List Value} {y : DataW H × List MemPlace} (h : DataW.trod enc Tryz.prog W 0 (fun _ => true) true n 25 cs = some y) : ∃ v0 : Option Addr, ∃ v1 : Nat, ∃ v2 : List Int, ∃ v3 : Option Addr, ∃ v4 : Nat, ∃ v5 : List Bool, ∃ v6 : Option Addr, ∃ v7 : Nat, ∃ v8 : List Int, cs = [Value.slice v0 v2.length v1, Value.slice v3 v5.length v4, Value.slice v6 v8.length v7] ∧ v2.length ≤ v1 ∧ Sl W eI 1 v0 v2 ∧ v5.length ≤ v4 ∧ Sl W eB 1 v3 v5 ∧ v8.length ≤ v7 ∧ Sl W eI 1 v6 v8 := by
  obtain ⟨xs, m, _, _, hlen, hxl, hf⟩ := DataW.trod_struct Tryz.underlying25 h
  have hc : cs.length = 3 := Eq.trans hlen (by kernel_rfl)
  have hxl2 : xs.length = 3 := by simpa using hxl
  have e0 := hf 0 _ rfl
  rw [List.getElem?_eq_getElem (by omega)] at e0
  obtain ⟨v0_0, v0_1, v0_2, q0, f0_0, f0_1⟩ := open_22 e0
  have q02 : (cs.drop 0).take 1 = [.slice v0_0 v0_2.length v0_1] := Eq.trans (congrArg (fun k => (cs.drop 0).take k) (show 1 = Tryz.prog.cellsOf 22 by kernel_rfl)) q0
  have e1 := hf 1 _ rfl
  rw [List.getElem?_eq_getElem (by omega)] at e1
  obtain ⟨v1_0, v1_1, v1_2, q1, f1_0, f1_1⟩ := open_23 e1
  have q12 : (cs.drop 1).take 1 = [.slice v1_0 v1_2.length v1_1] := Eq.trans (congrArg (fun k => (cs.drop 1).take k) (show 1 = Tryz.prog.cellsOf 23 by kernel_rfl)) q1
  have e2 := hf 2 _ rfl
  rw [List.getElem?_eq_getElem (by omega)] at e2
  obtain ⟨v2_0, v2_1, v2_2, q2, f2_0, f2_1⟩ := open_22 e2
  have q22 : (cs.drop 2).take 1 = [.slice v2_0 v2_2.length v2_1] := Eq.trans (congrArg (fun k => (cs.drop 2).take k) (show 1 = Tryz.prog.cellsOf 22 by kernel_rfl)) q2
  refine ⟨v0_0, v0_1, v0_2, v1_0, v1_1, v1_2, v2_0, v2_1, v2_2, ?_, f0_0, f0_1, f1_0, f1_1, f2_0, f2_1⟩
  have h0 : cs = cs.drop 0 := rfl
  rw [h0, seg_split cs 0 1 1 rfl, q02, seg_split cs 1 1 2 rfl, q12, seg_split cs 2 1 3 rfl, q22, List.drop_of_length_le (by omega)]
  rfl
theorem open_3 {n : Nat} {cs : List Value} {y : DataW H × List MemPlace} (h : DataW.trod enc Tryz.prog W 0 (fun _ => true) true n 3 cs = some y) : ∃ v0 : Int, cs = [Value.int .i64 v0] ∧ (-9223372036854775808 ≤ v0 ∧ v0 ≤ 9223372036854775807) := by
  obtain ⟨m, h1, _, h3⟩ := DataW.trod_int Tryz.underlying3 h
  exact ⟨m, h1, lit_i64 h3⟩
theorem open_42 {n : Nat} {cs : List Value} {y : DataW H × List MemPlace} (h : DataW.trod enc Tryz.prog W 0 (fun _ => true) true n 42 cs = some y) : ∃ v0 : Int, ∃ v1 : Int, cs = [Value.int .i64 v0, Value.int .i64 v1] ∧ (-9223372036854775808 ≤ v0 ∧ v0 ≤ 9223372036854775807) ∧ (-9223372036854775808 ≤ v1 ∧ v1 ≤ 9223372036854775807) := by
  obtain ⟨xs, m, _, _, hlen, hxl, hf⟩ := DataW.trod_struct Tryz.underlying42 h
  have hc : cs.length = 2 := Eq.trans hlen (by kernel_rfl)
  have hxl2 : xs.length = 2 := by simpa using hxl
  have e0 := hf 0 _ rfl
  rw [List.getElem?_eq_getElem (by omega)] at e0
  obtain ⟨v0_0, q0, f0_0⟩ := open_3 e0
  have q02 : (cs.drop 0).take 1 = [.int .i64 v0_0] := Eq.trans (congrArg (fun k => (cs.drop 0).take k) (show 1 = Tryz.prog.cellsOf 3 by kernel_rfl)) q0
  have e1 := hf 1 _ rfl
  rw [List.getElem?_eq_getElem (by omega)] at e1
  obtain ⟨v1_0, q1, f1_0⟩ := open_3 e1
  have q12 : (cs.drop 1).take 1 = [.int .i64 v1_0] := Eq.trans (congrArg (fun k => (cs.drop 1).take k) (show 1 = Tryz.prog.cellsOf 3 by kernel_rfl)) q1
  refine ⟨v0_0, v1_0, ?_, f0_0, f1_0⟩
  have h0 : cs = cs.drop 0 := rfl
  rw [h0, seg_split cs 0 1 1 rfl, q02, seg_split cs 1 1 2 rfl, q12, List.drop_of_length_le (by omega)]
  rfl
theorem open_9 {n : Nat} {cs : List Value} {y : DataW H × List MemPlace} (h : DataW.trod enc Tryz.prog W 0 (fun _ => true) true n 9 cs = some y) : ∃ v0 : Str, cs = [Value.string (bs v0)] := by
  obtain ⟨s, h1, _⟩ := DataW.trod_string Tryz.underlying9 h
  exact ⟨s.data.toList, by rw [← bs_of s]; exact h1⟩
theorem open_4 {n : Nat} {cs : List Value} {y : DataW H × List MemPlace} (h : DataW.trod enc Tryz.prog W 0 (fun _ => true) true n 4 cs = some y) : ∃ v0 : Bool, cs = [Value.bool v0] := by
  obtain ⟨b, h1, _⟩ := DataW.trod_bool Tryz.underlying4 h
  exact ⟨b, h1⟩
theorem open_30 {n : Nat} {cs : List Value} {y : DataW H × List MemPlace} (h : DataW.trod enc Tryz.prog W 0 (fun _ => true) true n 30 cs = some y) : ∃ v0 : Int, ∃ v1 : Int, cs = [Value.int .i64 v0, Value.int .i64 v1] ∧ (-9223372036854775808 ≤ v0 ∧ v0 ≤ 9223372036854775807) ∧ (-9223372036854775808 ≤ v1 ∧ v1 ≤ 9223372036854775807) := by
  obtain ⟨xs, m, _, _, hlen, hxl, hf⟩ := DataW.trod_struct Tryz.underlying30 h
  have hc : cs.length = 2 := Eq.trans hlen (by kernel_rfl)
  have hxl2 : xs.length = 2 := by simpa using hxl
  have e0 := hf 0 _ rfl
  rw [List.getElem?_eq_getElem (by omega)] at e0
  obtain ⟨v0_0, q0, f0_0⟩ := open_3 e0
  have q02 : (cs.drop 0).take 1 = [.int .i64 v0_0] := Eq.trans (congrArg (fun k => (cs.drop 0).take k) (show 1 = Tryz.prog.cellsOf 3 by kernel_rfl)) q0
  have e1 := hf 1 _ rfl
  rw [List.getElem?_eq_getElem (by omega)] at e1
  obtain ⟨v1_0, q1, f1_0⟩ := open_3 e1
  have q12 : (cs.drop 1).take 1 = [.int .i64 v1_0] := Eq.trans (congrArg (fun k => (cs.drop 1).take k) (show 1 = Tryz.prog.cellsOf 3 by kernel_rfl)) q1
  refine ⟨v0_0, v1_0, ?_, f0_0, f1_0⟩
  have h0 : cs = cs.drop 0 := rfl
  rw [h0, seg_split cs 0 1 1 rfl, q02, seg_split cs 1 1 2 rfl, q12, List.drop_of_length_le (by omega)]
  rfl
theorem open_32 {n : Nat} {cs : List Value} {y : DataW H × List MemPlace} (h : DataW.trod enc Tryz.prog W 0 (fun _ => true) true n 32 cs = some y) : ∃ v0 : Int, ∃ v1 : Int, cs = [Value.int .i64 v0, Value.int .i64 v1] ∧ (-9223372036854775808 ≤ v0 ∧ v0 ≤ 9223372036854775807) ∧ (-9223372036854775808 ≤ v1 ∧ v1 ≤ 9223372036854775807) := by
  obtain ⟨xs, m, _, _, hlen, hxl, hf⟩ := DataW.trod_struct Tryz.underlying32 h
  have hc : cs.length = 2 := Eq.trans hlen (by kernel_rfl)
  have hxl2 : xs.length = 2 := by simpa using hxl
  have e0 := hf 0 _ rfl
  rw [List.getElem?_eq_getElem (by omega)] at e0
  obtain ⟨v0_0, q0, f0_0⟩ := open_3 e0
  have q02 : (cs.drop 0).take 1 = [.int .i64 v0_0] := Eq.trans (congrArg (fun k => (cs.drop 0).take k) (show 1 = Tryz.prog.cellsOf 3 by kernel_rfl)) q0
  have e1 := hf 1 _ rfl
  rw [List.getElem?_eq_getElem (by omega)] at e1
  obtain ⟨v1_0, q1, f1_0⟩ := open_3 e1
  have q12 : (cs.drop 1).take 1 = [.int .i64 v1_0] := Eq.trans (congrArg (fun k => (cs.drop 1).take k) (show 1 = Tryz.prog.cellsOf 3 by kernel_rfl)) q1
  refine ⟨v0_0, v1_0, ?_, f0_0, f1_0⟩
  have h0 : cs = cs.drop 0 := rfl
  rw [h0, seg_split cs 0 1 1 rfl, q02, seg_split cs 1 1 2 rfl, q12, List.drop_of_length_le (by omega)]
  rfl
theorem open_34 {n : Nat} {cs : List Value} {y : DataW H × List MemPlace} (h : DataW.trod enc Tryz.prog W 0 (fun _ => true) true n 34 cs = some y) : ∃ v0 : Bool, ∃ v1 : Int, ∃ v2 : Int, ∃ v3 : Int, ∃ v4 : Int, cs = [Value.bool v0, Value.int .i64 v1, Value.int .i64 v2, Value.int .i64 v3, Value.int .i64 v4] ∧ (-9223372036854775808 ≤ v1 ∧ v1 ≤ 9223372036854775807) ∧ (-9223372036854775808 ≤ v2 ∧ v2 ≤ 9223372036854775807) ∧ (-9223372036854775808 ≤ v3 ∧ v3 ≤ 9223372036854775807) ∧ (-9223372036854775808 ≤ v4 ∧ v4 ≤ 9223372036854775807) := by
  obtain ⟨xs, m, _, _, hlen, hxl, hf⟩ := DataW.trod_struct Tryz.underlying34 h
  have hc : cs.length = 5 := Eq.trans hlen (by kernel_rfl)
  have hxl2 : xs.length = 3 := by simpa using hxl
  have e0 := hf 0 _ rfl
  rw [List.getElem?_eq_getElem (by omega)] at e0
  obtain ⟨v0_0, q0⟩ := open_4 e0
  have q02 : (cs.drop 0).take 1 = [.bool v0_0] := Eq.trans (congrArg (fun k => (cs.drop 0).take k) (show 1 = Tryz.prog.cellsOf 4 by kernel_rfl)) q0
  have e1 := hf 1 _ rfl
  rw [List.getElem?_eq_getElem (by omega)] at e1
  obtain ⟨v1_0, v1_1, q1, f1_0, f1_1⟩ := open_30 e1
  have q12 : (cs.drop 1).take 2 = [.int .i64 v1_0, .int .i64 v1_1] := Eq.trans (congrArg (fun k => (cs.drop 1).take k) (show 2 = Tryz.prog.cellsOf 30 by kernel_rfl)) q1
  have e2 := hf 2 _ rfl
  rw [List.getElem?_eq_getElem (by omega)] at e2
  obtain ⟨v2_0, v2_1, q2, f2_0, f2_1⟩ := open_32 e2
  have q22 : (cs.drop 3).take 2 = [.int .i64 v2_0, .int .i64 v2_1] := Eq.trans (congrArg (fun k => (cs.drop 3).take k) (show 2 = Tryz.prog.cellsOf 32 by kernel_rfl)) q2
  refine ⟨v0_0, v1_0, v1_1, v2_0, v2_1, ?_, f1_0, f1_1, f2_0, f2_1⟩
  have h0 : cs = cs.drop 0 := rfl
  rw [h0, seg_split cs 0 1 1 rfl, q02, seg_split cs 1 2 3 rfl, q12, seg_split cs 3 2 5 rfl, q22, List.drop_of_length_le (by omega)]
  rfl
theorem open_49 {n : Nat} {cs : List Value} {y : DataW H × List MemPlace} (h : DataW.trod enc Tryz.prog W 0 (fun _ => true) true n 49 cs = some y) : ∃ v0 : Option Addr, ∃ v1 : Nat, ∃ v2 : List Rule, cs = [Value.slice v0 v2.length v1] ∧ v2.length ≤ v1 ∧ Sl W eRule 5 v0 v2 := by
  obtain ⟨a, c, xs, h1, h2, h3⟩ := open_sl (enc := eRule) (k := 5) Tryz.underlying49 (by kernel_rfl) eRule_ok (fun n cs y h => by obtain ⟨v0, v1, v2, v3, v4, rfl, _, _, _, _⟩ := open_34 h; exact ⟨(Rule.mk v0 (Prefix.mk v1 v2) (PortsT.mk v3 v4)), rfl⟩) h
  exact ⟨a, c, xs, h1, h2, h3⟩
theorem open_62 {n : Nat} {cs : List Value} {y : DataW H × List MemPlace} (h : DataW.trod enc Tryz.prog W 0 (fun _ => true) true n 62 cs = some y) : ∃ v0 : Int, ∃ v1 : Str, ∃ v2 : Int, ∃ v3 : Int, cs = [Value.int .i64 v0, Value.string (bs v1), Value.int .i64 v2, Value.int .i64 v3] ∧ (-9223372036854775808 ≤ v0 ∧ v0 ≤ 9223372036854775807) ∧ (-9223372036854775808 ≤ v2 ∧ v2 ≤ 9223372036854775807) ∧ (-9223372036854775808 ≤ v3 ∧ v3 ≤ 9223372036854775807) := by
  obtain ⟨xs, m, _, _, hlen, hxl, hf⟩ := DataW.trod_struct Tryz.underlying62 h
  have hc : cs.length = 4 := Eq.trans hlen (by kernel_rfl)
  have hxl2 : xs.length = 4 := by simpa using hxl
  have e0 := hf 0 _ rfl
  rw [List.getElem?_eq_getElem (by omega)] at e0
  obtain ⟨v0_0, q0, f0_0⟩ := open_3 e0
  have q02 : (cs.drop 0).take 1 = [.int .i64 v0_0] := Eq.trans (congrArg (fun k => (cs.drop 0).take k) (show 1 = Tryz.prog.cellsOf 3 by kernel_rfl)) q0
  have e1 := hf 1 _ rfl
  rw [List.getElem?_eq_getElem (by omega)] at e1
  obtain ⟨v1_0, q1⟩ := open_9 e1
  have q12 : (cs.drop 1).take 1 = [.string (bs v1_0)] := Eq.trans (congrArg (fun k => (cs.drop 1).take k) (show 1 = Tryz.prog.cellsOf 9 by kernel_rfl)) q1
  have e2 := hf 2 _ rfl
  rw [List.getElem?_eq_getElem (by omega)] at e2
  obtain ⟨v2_0, q2, f2_0⟩ := open_3 e2
  have q22 : (cs.drop 2).take 1 = [.int .i64 v2_0] := Eq.trans (congrArg (fun k => (cs.drop 2).take k) (show 1 = Tryz.prog.cellsOf 3 by kernel_rfl)) q2
  have e3 := hf 3 _ rfl
  rw [List.getElem?_eq_getElem (by omega)] at e3
  obtain ⟨v3_0, q3, f3_0⟩ := open_3 e3
  have q32 : (cs.drop 3).take 1 = [.int .i64 v3_0] := Eq.trans (congrArg (fun k => (cs.drop 3).take k) (show 1 = Tryz.prog.cellsOf 3 by kernel_rfl)) q3
  refine ⟨v0_0, v1_0, v2_0, v3_0, ?_, f0_0, f2_0, f3_0⟩
  have h0 : cs = cs.drop 0 := rfl
  rw [h0, seg_split cs 0 1 1 rfl, q02, seg_split cs 1 1 2 rfl, q12, seg_split cs 2 1 3 rfl, q22, seg_split cs 3 1 4 rfl, q32, List.drop_of_length_le (by omega)]
  rfl
theorem open_50 {n : Nat} {cs : List Value} {y : DataW H × List MemPlace} (h : DataW.trod enc Tryz.prog W 0 (fun _ => true) true n 50 cs = some y) : ∃ v0 : Option Addr, ∃ v1 : Nat, ∃ v2 : List Cred, cs = [Value.slice v0 v2.length v1] ∧ v2.length ≤ v1 ∧ Sl W eCred 4 v0 v2 := by
  obtain ⟨a, c, xs, h1, h2, h3⟩ := open_sl (enc := eCred) (k := 4) Tryz.underlying50 (by kernel_rfl) eCred_ok (fun n cs y h => by obtain ⟨v0, v1, v2, v3, rfl, _, _, _⟩ := open_62 h; exact ⟨(Cred.mk v0 v1 v2 v3), rfl⟩) h
  exact ⟨a, c, xs, h1, h2, h3⟩
theorem open_52 {n : Nat} {cs : List Value} {y : DataW H × List MemPlace} (h : DataW.trod enc Tryz.prog W 0 (fun _ => true) true n 52 cs = some y) : ∃ v0 : Int, ∃ v1 : Int, ∃ v2 : Str, ∃ v3 : Int, ∃ v4 : Int, ∃ v5 : Option Addr, ∃ v6 : Nat, ∃ v7 : List Rule, ∃ v8 : Option Addr, ∃ v9 : Nat, ∃ v10 : List Cred, ∃ v11 : Int, cs = [Value.int .i64 v0, Value.int .i64 v1, Value.string (bs v2), Value.int .i64 v3, Value.int .i64 v4, Value.slice v5 v7.length v6, Value.slice v8 v10.length v9, Value.int .i64 v11] ∧ (-9223372036854775808 ≤ v0 ∧ v0 ≤ 9223372036854775807) ∧ (-9223372036854775808 ≤ v1 ∧ v1 ≤ 9223372036854775807) ∧ (-9223372036854775808 ≤ v3 ∧ v3 ≤ 9223372036854775807) ∧ (-9223372036854775808 ≤ v4 ∧ v4 ≤ 9223372036854775807) ∧ v7.length ≤ v6 ∧ Sl W eRule 5 v5 v7 ∧ v10.length ≤ v9 ∧ Sl W eCred 4 v8 v10 ∧ (-9223372036854775808 ≤ v11 ∧ v11 ≤ 9223372036854775807) := by
  obtain ⟨xs, m, _, _, hlen, hxl, hf⟩ := DataW.trod_struct Tryz.underlying52 h
  have hc : cs.length = 8 := Eq.trans hlen (by kernel_rfl)
  have hxl2 : xs.length = 7 := by simpa using hxl
  have e0 := hf 0 _ rfl
  rw [List.getElem?_eq_getElem (by omega)] at e0
  obtain ⟨v0_0, v0_1, q0, f0_0, f0_1⟩ := open_42 e0
  have q02 : (cs.drop 0).take 2 = [.int .i64 v0_0, .int .i64 v0_1] := Eq.trans (congrArg (fun k => (cs.drop 0).take k) (show 2 = Tryz.prog.cellsOf 42 by kernel_rfl)) q0
  have e1 := hf 1 _ rfl
  rw [List.getElem?_eq_getElem (by omega)] at e1
  obtain ⟨v1_0, q1⟩ := open_9 e1
  have q12 : (cs.drop 2).take 1 = [.string (bs v1_0)] := Eq.trans (congrArg (fun k => (cs.drop 2).take k) (show 1 = Tryz.prog.cellsOf 9 by kernel_rfl)) q1
  have e2 := hf 2 _ rfl
  rw [List.getElem?_eq_getElem (by omega)] at e2
  obtain ⟨v2_0, q2, f2_0⟩ := open_3 e2
  have q22 : (cs.drop 3).take 1 = [.int .i64 v2_0] := Eq.trans (congrArg (fun k => (cs.drop 3).take k) (show 1 = Tryz.prog.cellsOf 3 by kernel_rfl)) q2
  have e3 := hf 3 _ rfl
  rw [List.getElem?_eq_getElem (by omega)] at e3
  obtain ⟨v3_0, q3, f3_0⟩ := open_3 e3
  have q32 : (cs.drop 4).take 1 = [.int .i64 v3_0] := Eq.trans (congrArg (fun k => (cs.drop 4).take k) (show 1 = Tryz.prog.cellsOf 3 by kernel_rfl)) q3
  have e4 := hf 4 _ rfl
  rw [List.getElem?_eq_getElem (by omega)] at e4
  obtain ⟨v4_0, v4_1, v4_2, q4, f4_0, f4_1⟩ := open_49 e4
  have q42 : (cs.drop 5).take 1 = [.slice v4_0 v4_2.length v4_1] := Eq.trans (congrArg (fun k => (cs.drop 5).take k) (show 1 = Tryz.prog.cellsOf 49 by kernel_rfl)) q4
  have e5 := hf 5 _ rfl
  rw [List.getElem?_eq_getElem (by omega)] at e5
  obtain ⟨v5_0, v5_1, v5_2, q5, f5_0, f5_1⟩ := open_50 e5
  have q52 : (cs.drop 6).take 1 = [.slice v5_0 v5_2.length v5_1] := Eq.trans (congrArg (fun k => (cs.drop 6).take k) (show 1 = Tryz.prog.cellsOf 50 by kernel_rfl)) q5
  have e6 := hf 6 _ rfl
  rw [List.getElem?_eq_getElem (by omega)] at e6
  obtain ⟨v6_0, q6, f6_0⟩ := open_3 e6
  have q62 : (cs.drop 7).take 1 = [.int .i64 v6_0] := Eq.trans (congrArg (fun k => (cs.drop 7).take k) (show 1 = Tryz.prog.cellsOf 3 by kernel_rfl)) q6
  refine ⟨v0_0, v0_1, v1_0, v2_0, v3_0, v4_0, v4_1, v4_2, v5_0, v5_1, v5_2, v6_0, ?_, f0_0, f0_1, f2_0, f3_0, f4_0, f4_1, f5_0, f5_1, f6_0⟩
  have h0 : cs = cs.drop 0 := rfl
  rw [h0, seg_split cs 0 2 2 rfl, q02, seg_split cs 2 1 3 rfl, q12, seg_split cs 3 1 4 rfl, q22, seg_split cs 4 1 5 rfl, q32, seg_split cs 5 1 6 rfl, q42, seg_split cs 6 1 7 rfl, q52, seg_split cs 7 1 8 rfl, q62, List.drop_of_length_le (by omega)]
  rfl
theorem open_26 {n : Nat} {cs : List Value} {y : DataW H × List MemPlace} (h : DataW.trod enc Tryz.prog W 0 (fun _ => true) true n 26 cs = some y) : ∃ v0 : Option Addr, ∃ v1 : Nat, ∃ v2 : List Tenant, ∃ v3 : List TA, cs = [Value.slice v0 v2.length v1] ∧ v2.length ≤ v1 ∧ SlN W eTenant 8 DT v0 v2 v3 := by
  obtain ⟨a, c, xs, ts, h1, h2, h3⟩ := open_slN (enc := eTenant) (D := DT) (k := 8) Tryz.underlying26 (by kernel_rfl) eTenant_ok (fun n cs y h => by obtain ⟨v0, v1, v2, v3, v4, v5, v6, v7, v8, v9, v10, v11, rfl, f0, f1, f2, f3, f4, f5, f6, f7, f8⟩ := open_52 h; exact ⟨(Tenant.mk (Handle.mk v0 v1) v2 v3 v4 v7 v10 v11), ⟨v5, v6, v8, v9⟩, rfl, ⟨f5, f7, f4, f6⟩⟩) h
  exact ⟨a, c, xs, ts, h1, h2, h3⟩
theorem open_28 {n : Nat} {cs : List Value} {y : DataW H × List MemPlace} (h : DataW.trod enc Tryz.prog W 0 (fun _ => true) true n 28 cs = some y) : ∃ v0 : Option Addr, ∃ v1 : Nat, ∃ v2 : List Int, ∃ v3 : Option Addr, ∃ v4 : Nat, ∃ v5 : List Bool, ∃ v6 : Option Addr, ∃ v7 : Nat, ∃ v8 : List Int, ∃ v9 : Option Addr, ∃ v10 : Nat, ∃ v11 : List Tenant, ∃ v12 : List TA, ∃ v13 : Int, cs = [Value.slice v0 v2.length v1, Value.slice v3 v5.length v4, Value.slice v6 v8.length v7, Value.slice v9 v11.length v10, Value.int .i64 v13] ∧ v2.length ≤ v1 ∧ Sl W eI 1 v0 v2 ∧ v5.length ≤ v4 ∧ Sl W eB 1 v3 v5 ∧ v8.length ≤ v7 ∧ Sl W eI 1 v6 v8 ∧ v11.length ≤ v10 ∧ SlN W eTenant 8 DT v9 v11 v12 ∧ (-9223372036854775808 ≤ v13 ∧ v13 ≤ 9223372036854775807) := by
  obtain ⟨xs, m, _, _, hlen, hxl, hf⟩ := DataW.trod_struct Tryz.underlying28 h
  have hc : cs.length = 5 := Eq.trans hlen (by kernel_rfl)
  have hxl2 : xs.length = 3 := by simpa using hxl
  have e0 := hf 0 _ rfl
  rw [List.getElem?_eq_getElem (by omega)] at e0
  obtain ⟨v0_0, v0_1, v0_2, v0_3, v0_4, v0_5, v0_6, v0_7, v0_8, q0, f0_0, f0_1, f0_2, f0_3, f0_4, f0_5⟩ := open_25 e0
  have q02 : (cs.drop 0).take 3 = [.slice v0_0 v0_2.length v0_1, .slice v0_3 v0_5.length v0_4, .slice v0_6 v0_8.length v0_7] := Eq.trans (congrArg (fun k => (cs.drop 0).take k) (show 3 = Tryz.prog.cellsOf 25 by kernel_rfl)) q0
  have e1 := hf 1 _ rfl
  rw [List.getElem?_eq_getElem (by omega)] at e1
  obtain ⟨v1_0, v1_1, v1_2, v1_3, q1, f1_0, f1_1⟩ := open_26 e1
  have q12 : (cs.drop 3).take 1 = [.slice v1_0 v1_2.length v1_1] := Eq.trans (congrArg (fun k => (cs.drop 3).take k) (show 1 = Tryz.prog.cellsOf 26 by kernel_rfl)) q1
  have e2 := hf 2 _ rfl
  rw [List.getElem?_eq_getElem (by omega)] at e2
  obtain ⟨v2_0, q2, f2_0⟩ := open_3 e2
  have q22 : (cs.drop 4).take 1 = [.int .i64 v2_0] := Eq.trans (congrArg (fun k => (cs.drop 4).take k) (show 1 = Tryz.prog.cellsOf 3 by kernel_rfl)) q2
  refine ⟨v0_0, v0_1, v0_2, v0_3, v0_4, v0_5, v0_6, v0_7, v0_8, v1_0, v1_1, v1_2, v1_3, v2_0, ?_, f0_0, f0_1, f0_2, f0_3, f0_4, f0_5, f1_0, f1_1, f2_0⟩
  have h0 : cs = cs.drop 0 := rfl
  rw [h0, seg_split cs 0 3 3 rfl, q02, seg_split cs 3 1 4 rfl, q12, seg_split cs 4 1 5 rfl, q22, List.drop_of_length_le (by omega)]
  rfl
end
def laidD : List (String × DataW Unit) := [("wicketgate/acl.errRules", Rows.laid_wicketgate_acl_errRules), ("wicketgate/acl.errRule", Rows.laid_wicketgate_acl_errRule), ("wicketgate/acl.errPlace", Rows.laid_wicketgate_acl_errPlace), ("wicketgate/acl.errTarget", Rows.laid_wicketgate_acl_errTarget), ("wicketgate/roles.verbs", Rows.laid_wicketgate_roles_verbs)]
noncomputable def laidW0 (os : Os) : World := { World.holding Tryz.prog os ⟨#[], #[], []⟩ with heap := ((World.holding Tryz.prog os ⟨#[], #[], []⟩).heap.modify 0 fun
      | .cells _ t frozen => .cells #[.iface 199 (.agg #[.pointer (some ⟨6, 78, none⟩)])] t frozen
      | o => o) }
noncomputable def laidWorld (os : Os) : World := (laidW0 os).layVars Tryz.prog laidD
theorem jf1 : laidOutB Tryz.pinned.checked.prog = true := by kernel_rfl
theorem jf2 : mapsRowed Tryz.pinned.checked.prog = true := by kernel_rfl
theorem jf3 : Tryz.pinned.checked.prog.stopsHeard = true := by kernel_rfl
theorem jf4 : Tryz.pinned.checked.prog.mayEnter = true := by kernel_rfl
theorem jf5 : Tryz.pinned.checked.prog.liftsFinal = Rows.registryOldRow.lifted := by kernel_rfl
theorem ern0 : Tryz.prog.globalNamed "wicketgate/acl.errRules" = some 2 := by kernel_rfl
theorem ert0 : (Tryz.prog.globals[2]?).map (·.type) = some 78 := by kernel_rfl
theorem ern1 : Tryz.prog.globalNamed "wicketgate/acl.errRule" = some 3 := by kernel_rfl
theorem ert1 : (Tryz.prog.globals[3]?).map (·.type) = some 78 := by kernel_rfl
theorem ern2 : Tryz.prog.globalNamed "wicketgate/acl.errPlace" = some 4 := by kernel_rfl
theorem ert2 : (Tryz.prog.globals[4]?).map (·.type) = some 78 := by kernel_rfl
theorem ern3 : Tryz.prog.globalNamed "wicketgate/acl.errTarget" = some 5 := by kernel_rfl
theorem ert3 : (Tryz.prog.globals[5]?).map (·.type) = some 78 := by kernel_rfl
theorem er_star : "*" ++ "errors.errorString" = "*errors.errorString" := by decide
theorem er_row (u : TypeId) (h : Tryz.prog.typeName? 3 u = some "*errors.errorString") : u = 240 :=
  typeName_ptr_named (nm := "errors.errorString") (by rw [er_star]; kernel_rfl) (by kernel_rfl) (by decide) u (by rw [er_star]; exact h)

theorem er_c1 : Tryz.prog.cellsOf 261 = 1 := by kernel_rfl
theorem er_c2 : Tryz.prog.cellsOf 9 = 1 := by kernel_rfl
end Go.Proofs.YtopjaeoklkpcpaaGreatDoor

namespace Go.Proofs.YtopjaeoklkpcpaaGreatDoor.Jd
open Go.Proofs
open Go.RowKit (Below)
set_option maxRecDepth 100000
set_option maxHeartbeats 8000000
set_option linter.unusedVariables false
set_option linter.unusedSimpArgs false
def gOwn_l0 (r : Registry) : Nat → Nat → List Tenant → Nat × (List Tenant)
  | 0, x_1, x_2 => (x_1, x_2)
  | n_3 + 1, x_1, x_2 => (if ((x_1 : Nat) : Int) < ((r.l.length : Nat) : Int) then (gOwn_l0 r n_3 (x_1 + 1) (x_2 ++ ([(((r.l.getD x_1 default), r.seq).1)] : List Tenant))) else (x_1, x_2))
def gOwn (r : Registry) : Registry := (run2 (gOwn_l0 r (r.l.length + 1) 0 []) (fun x_1 x_2 => (Registry.mk r.slots x_2 r.seq)))
def gFind (r : Registry) (name : Str) : Tenant × Bool := (if (!((gPlace r name).2)) = true then ((Tenant.mk (Handle.mk 0 0) ([] : Str) 0 0 ([]) ([]) 0), false) else ((((r.l.getD ((((gPlace r name).1)).toNat) default), r.seq).1), true))
def gNew (n_ : Int) : Registry × Int := ((Registry.mk ((sNew n_).1) ([]) 0), ((sNew n_).2))
end Go.Proofs.YtopjaeoklkpcpaaGreatDoor.Jd

namespace Go.Proofs.YtopjaeoklkpcpaaGreatDoor.Jd
open Go.Proofs
open Go.RowKit (Below)
set_option maxRecDepth 100000
set_option maxHeartbeats 8000000
set_option linter.unusedVariables false
set_option linter.unusedSimpArgs false
def gPut_l0 (l : List (Tenant × TA)) (x : Tenant × TA) : Nat → Nat → Nat
  | 0, at_1 => (at_1)
  | n_2 + 1, at_1 => (if ((at_1 : Nat) : Int) < ((l.length : Nat) : Int) then (if ((l.getD at_1 default).1.handle.slot) < x.1.handle.slot then (gPut_l0 l x n_2 (at_1 + 1)) else (at_1)) else (at_1))
def gPut (l : List (Tenant × TA)) (x : Tenant × TA) : List (Tenant × TA) := (run1 (gPut_l0 l x (l.length + 1) 0) (fun at_1 => (if 0 < ((((l.drop at_1).length) : Nat) : Int) then (if (((l.drop at_1).getD 0 default).1.handle.slot) = x.1.handle.slot then (if (0 + ((((l.take at_1).length) : Nat) : Int)) < 0 then default else (if ((0 + ((((l.take at_1).length) : Nat) : Int)) + 1) < 0 then default else (if (((0 + ((((l.take at_1).length) : Nat) : Int)) + 1) + (((((l.drop at_1).drop 1).length) : Nat) : Int)) < 0 then default else ((((([] : List (Tenant × TA))) ++ (l.take at_1)) ++ ([x] : List (Tenant × TA))) ++ ((l.drop at_1).drop 1))))) else (if (0 + ((((l.take at_1).length) : Nat) : Int)) < 0 then default else (if ((0 + ((((l.take at_1).length) : Nat) : Int)) + 1) < 0 then default else (if (((0 + ((((l.take at_1).length) : Nat) : Int)) + 1) + ((((l.drop at_1).length) : Nat) : Int)) < 0 then default else ((((([] : List (Tenant × TA))) ++ (l.take at_1)) ++ ([x] : List (Tenant × TA))) ++ (l.drop at_1)))))) else (if (0 + ((((l.take at_1).length) : Nat) : Int)) < 0 then default else (if ((0 + ((((l.take at_1).length) : Nat) : Int)) + 1) < 0 then default else (if (((0 + ((((l.take at_1).length) : Nat) : Int)) + 1) + ((((l.drop at_1).length) : Nat) : Int)) < 0 then default else ((((([] : List (Tenant × TA))) ++ (l.take at_1)) ++ ([x] : List (Tenant × TA))) ++ (l.drop at_1))))))))
end Go.Proofs.YtopjaeoklkpcpaaGreatDoor.Jd

namespace Go.Proofs.YtopjaeoklkpcpaaGreatDoor.Jd
set_option linter.unusedVariables false
set_option linter.unusedSimpArgs false
theorem drop_cons' {α : Type} [Inhabited α] {l : List α} {i : Nat} (h : i < l.length) : l.drop i = l.getD i default :: l.drop (i + 1) := by
  rw [List.drop_eq_getElem_cons h, List.getD_eq_getElem?_getD, List.getElem?_eq_getElem h]; rfl
theorem gOwn_l0_eq (r : Registry) : ∀ n i acc, r.l.length < i + n → i ≤ r.l.length → (gOwn_l0 r n i acc).2 = acc ++ r.l.drop i
  | 0, i, acc, h1, h2 => by omega
  | n + 1, i, acc, h1, h2 => by
    unfold gOwn_l0
    by_cases hi : i < r.l.length
    · rw [if_pos (by omega), gOwn_l0_eq r n (i + 1) _ (by omega) (by omega), drop_cons' hi]; simp
    · rw [if_neg (by omega), List.drop_eq_nil_of_le (by omega)]; simp
theorem gOwn_eq (r : Registry) : gOwn r = r := by
  unfold gOwn
  have h := gOwn_l0_eq r (r.l.length + 1) 0 [] (by omega) (by omega)
  cases e : gOwn_l0 r (r.l.length + 1) 0 [] with
  | mk a b =>
    rw [e] at h
    simp only [run2]
    rw [show b = r.l by simpa using h]
theorem gPlace_l0_t (r : Registry) (name : Str) : ∀ n i, (outc1 (gPlace_l0 r name n i) (fun r => r) (fun x_1 => ((0 : Int), false))).2 = true → 0 ≤ (outc1 (gPlace_l0 r name n i) (fun r => r) (fun x_1 => ((0 : Int), false))).1 ∧ (outc1 (gPlace_l0 r name n i) (fun r => r) (fun x_1 => ((0 : Int), false))).1 < r.l.length
  | 0, i => by simp [gPlace_l0, outc1]
  | n + 1, i => by
    unfold gPlace_l0
    by_cases hi : i < r.l.length
    · rw [if_pos (by omega)]
      by_cases hn : (r.l.getD i default).name = name
      · rw [if_pos hn]; intro _; simp only [outc1]; omega
      · rw [if_neg hn]; exact gPlace_l0_t r name n (i + 1)
    · rw [if_neg (by omega)]; simp [outc1]
theorem gPlace_t {r : Registry} {name : Str} (h : (gPlace r name).2 = true) : 0 ≤ (gPlace r name).1 ∧ (gPlace r name).1 < r.l.length := gPlace_l0_t r name _ _ h
end Go.Proofs.YtopjaeoklkpcpaaGreatDoor.Jd

namespace Go.Proofs.YtopjaeoklkpcpaaGreatDoor.Jd
set_option linter.unusedVariables false
set_option linter.unusedSimpArgs false
def putP : List (Tenant × TA) → Tenant × TA → List (Tenant × TA)
  | [], x => [x]
  | t :: r, x => if t.1.handle.slot < x.1.handle.slot then t :: putP r x else if t.1.handle.slot = x.1.handle.slot then x :: r else x :: t :: r
def putX : List Tenant → Tenant → List Tenant
  | [], x => [x]
  | t :: r, x => if t.handle.slot < x.handle.slot then t :: putX r x else if t.handle.slot = x.handle.slot then x :: r else x :: t :: r
def putT : List Tenant → List TA → Tenant → TA → List TA
  | t :: r, u :: us, x, v => if t.handle.slot < x.handle.slot then u :: putT r us x v else if t.handle.slot = x.handle.slot then v :: us else v :: u :: us
  | _, _, x, v => [v]
theorem putP_zip : ∀ (xs : List Tenant) (ts : List TA) (x : Tenant) (v : TA), ts.length = xs.length → putP (List.zip xs ts) (x, v) = List.zip (putX xs x) (putT xs ts x v)
  | [], ts, x, v, h => by
    have : ts = [] := List.length_eq_zero_iff.1 h
    subst this; rfl
  | t :: r, [], x, v, h => by simp at h
  | t :: r, u :: us, x, v, h => by
    have h' : us.length = r.length := by simpa using h
    simp only [List.zip_cons_cons, putP, putX, putT]
    split
    · rw [putP_zip r us x v h']; rfl
    · split <;> rfl
theorem putX_length_le (l : List Tenant) (x : Tenant) : (putX l x).length ≤ l.length + 1 := by
  induction l with
  | nil => simp [putX]
  | cons t r ih =>
    unfold putX
    split
    · simp only [List.length_cons]; omega
    · split <;> simp
theorem putT_length : ∀ (xs : List Tenant) (ts : List TA) (x : Tenant) (v : TA), ts.length = xs.length → (putT xs ts x v).length = (putX xs x).length
  | [], ts, x, v, h => by
    have : ts = [] := List.length_eq_zero_iff.1 h
    subst this; rfl
  | t :: r, [], x, v, h => by simp at h
  | t :: r, u :: us, x, v, h => by
    have h' : us.length = r.length := by simpa using h
    simp only [putX, putT]
    split
    · simp only [List.length_cons]; rw [putT_length r us x v h']
    · split <;> simp [h']
theorem gPut_l0_eq (l : List (Tenant × TA)) (x : Tenant × TA) : ∀ n i, l.length < i + n → i ≤ l.length → gPut_l0 l x n i = i + ((l.drop i).takeWhile fun t => decide (t.1.handle.slot < x.1.handle.slot)).length
  | 0, i, h1, h2 => by omega
  | n + 1, i, h1, h2 => by
    unfold gPut_l0
    by_cases hi : i < l.length
    · rw [if_pos (by omega), drop_cons' hi, List.takeWhile_cons]
      by_cases hs : (l.getD i default).1.handle.slot < x.1.handle.slot
      · rw [if_pos hs, if_pos (by simpa using hs), gPut_l0_eq l x n (i + 1) (by omega) (by omega), List.length_cons]; omega
      · rw [if_neg hs, if_neg (by simpa using hs)]; rfl
    · rw [if_neg (by omega), List.drop_eq_nil_of_le (by omega)]; rfl
theorem putP_eq (x : Tenant × TA) : ∀ l : List (Tenant × TA), putP l x = l.take (l.takeWhile fun t => decide (t.1.handle.slot < x.1.handle.slot)).length ++ [x] ++ (if 0 < (l.drop (l.takeWhile fun t => decide (t.1.handle.slot < x.1.handle.slot)).length).length ∧ ((l.drop (l.takeWhile fun t => decide (t.1.handle.slot < x.1.handle.slot)).length).getD 0 default).1.handle.slot = x.1.handle.slot then (l.drop (l.takeWhile fun t => decide (t.1.handle.slot < x.1.handle.slot)).length).drop 1 else l.drop (l.takeWhile fun t => decide (t.1.handle.slot < x.1.handle.slot)).length)
  | [] => by simp [putP]
  | t :: r => by
    unfold putP
    by_cases hs : t.1.handle.slot < x.1.handle.slot
    · rw [if_pos hs, List.takeWhile_cons, if_pos (by simpa using hs), putP_eq x r]
      simp only [List.length_cons, List.take_succ_cons, List.drop_succ_cons, List.cons_append]
    · have hd : ¬ (decide (t.1.handle.slot < x.1.handle.slot) = true) := by simpa using hs
      rw [if_neg hs, List.takeWhile_cons, if_neg hd]
      by_cases he : t.1.handle.slot = x.1.handle.slot
      · rw [if_pos he]; simp [he]
      · rw [if_neg he]; simp [he]
theorem gPut_eq (l : List (Tenant × TA)) (x : Tenant × TA) : gPut l x = putP l x := by
  have h := gPut_l0_eq l x (l.length + 1) 0 (by omega) (by omega)
  simp only [List.drop_zero, Nat.zero_add] at h
  unfold gPut
  rw [h, putP_eq]
  simp only [run1]
  generalize (l.takeWhile fun t => decide (t.1.handle.slot < x.1.handle.slot)).length = k
  by_cases h1 : 0 < (l.drop k).length
  · rw [if_pos (by omega)]
    by_cases h2 : ((l.drop k).getD 0 default).1.handle.slot = x.1.handle.slot
    · rw [if_pos h2, if_neg (by omega), if_neg (by omega), if_neg (by omega), if_pos ⟨h1, h2⟩]; rfl
    · rw [if_neg h2, if_neg (by omega), if_neg (by omega), if_neg (by omega), if_neg (fun h => h2 h.2)]; rfl
  · rw [if_neg (by omega), if_neg (by omega), if_neg (by omega), if_neg (by omega), if_neg (fun h => h1 h.1)]; rfl
theorem gPut_zip {xs : List Tenant} {ts : List TA} (x : Tenant) (v : TA) (h : ts.length = xs.length) : gPut (List.zip xs ts) (x, v) = List.zip (putX xs x) (putT xs ts x v) := by rw [gPut_eq, putP_zip xs ts x v h]
theorem delL_zip {α β : Type} {xs : List α} {ts : List β} (h : ts.length = xs.length) (i j : Nat) : delL (List.zip xs ts) i j = List.zip (delL xs i j) (delL ts i j) := by
  unfold delL
  rw [show (List.zip xs ts).take i = List.zip (xs.take i) (ts.take i) from List.take_zipWith, show (List.zip xs ts).drop j = List.zip (xs.drop j) (ts.drop j) from List.drop_zipWith, List.zip_append (by rw [List.length_take, List.length_take, h])]
section
variable {B : Heap} {α β : Type} [Inhabited α] [Inhabited β] {D : World → α → β → Prop} {xs : List α} {ts : List β}
theorem DeepB.cons_iff {x : α} {v : β} : DeepB B D (x :: xs) (v :: ts) ↔ (∀ w : World, (∀ p ∈ B, w.heap[p.1]? = some p.2) → D w x v) ∧ DeepB B D xs ts := by
  constructor
  · rintro ⟨h1, h2⟩
    refine ⟨fun w hw => h2 w hw 0 (by simp), by simpa using h1, fun w hw i hi => ?_⟩
    have := h2 w hw (i + 1) (by simp; omega)
    simpa using this
  · rintro ⟨h1, h2, h3⟩
    refine ⟨by simp [h2], fun w hw i hi => ?_⟩
    cases i with
    | zero => simpa using h1 w hw
    | succ i => simpa using h3 w hw i (by simpa using hi)
theorem DeepB.delL (h : DeepB B D xs ts) (i j : Nat) : DeepB B D (delL xs i j) (delL ts i j) := (h.take i).append (h.drop j)
end
theorem DeepB.put {B : Heap} {D : World → Tenant → TA → Prop} : ∀ {xs : List Tenant} {ts : List TA} {x : Tenant} {v : TA}, DeepB B D xs ts → DeepB B D [x] [v] → DeepB B D (putX xs x) (putT xs ts x v)
  | [], ts, x, v, h, h1 => by
    have : ts = [] := List.length_eq_zero_iff.1 h.1
    subst this; exact h1
  | t :: r, [], x, v, h, h1 => by have := h.1; simp at this
  | t :: r, u :: us, x, v, h, h1 => by
    obtain ⟨h2, h3⟩ := DeepB.cons_iff.1 h
    simp only [putX, putT]
    split
    · exact DeepB.cons_iff.2 ⟨h2, h3.put h1⟩
    · split
      · exact DeepB.cons_iff.2 ⟨(DeepB.cons_iff.1 h1).1, h3⟩
      · exact DeepB.cons_iff.2 ⟨(DeepB.cons_iff.1 h1).1, h⟩
end Go.Proofs.YtopjaeoklkpcpaaGreatDoor.Jd

namespace Go.Proofs.YtopjaeoklkpcpaaGreatDoor.Jd
open Go.Proofs
open Go.RowKit (Below)
set_option maxRecDepth 100000
set_option maxHeartbeats 8000000
set_option linter.unusedVariables false
set_option linter.unusedSimpArgs false
abbrev xR (r : Registry) : Registry := Registry.mk r.slots r.l (r.seq + 1)
abbrev xN (r : Registry) (c : Command) : Nat := (gPlace (xR r) c.name).1.toNat
abbrev xA (r : Registry) (c : Command) : Tenant := r.l.getD (xN r c) default
def gApply (r : Registry) (role : Int) (c : Command) (now : Int) : Registry × Reply := (if (!(gRight r)) = true then ((Registry.mk (Slots.mk ([]) ([]) ([])) ([]) 0), (Reply.mk 150 0 (Handle.mk 0 0) 0 0)) else (if 1000000000000 ≤ r.seq then ((Registry.mk (Slots.mk ([]) ([]) ([])) ([]) 0), (Reply.mk 150 0 (Handle.mk 0 0) 0 0)) else (if now < 0 then ((Registry.mk (Slots.mk ([]) ([]) ([])) ([]) 0), (Reply.mk 150 0 (Handle.mk 0 0) 0 0)) else (if 1000000000000 < now then ((Registry.mk (Slots.mk ([]) ([]) ([])) ([]) 0), (Reply.mk 150 0 (Handle.mk 0 0) 0 0)) else (if (!(roMay role c.verb)) = true then ((xR r), (Reply.mk 151 (r.seq + 1) (Handle.mk 0 0) 0 0)) else (if c.verb = 1 then (if (!(gIsName c.name)) = true then (run0 () ((xR r), (Reply.mk 152 (r.seq + 1) (Handle.mk 0 0) 0 0))) else (if ((gPlace (xR r) c.name).2) = true then (run0 () ((xR r), (Reply.mk 153 (r.seq + 1) (Handle.mk 0 0) 0 0))) else (if ((sTake r.slots).2.2) ≠ 0 then (run0 () ((xR r), (Reply.mk ((sTake r.slots).2.2) (r.seq + 1) (Handle.mk 0 0) 0 0))) else (if ((cRot ([]) c.key now 0 c.n).2.2) ≠ 0 then (run0 () ((xR r), (Reply.mk ((cRot ([]) c.key now 0 c.n).2.2) (r.seq + 1) (Handle.mk 0 0) 0 0))) else (run0 () ((Registry.mk ((sTake r.slots).1) (putX r.l (Tenant.mk ((sTake r.slots).2.1) c.name 1 1 ([]) ((cRot ([]) c.key now 0 c.n).1) 0)) (r.seq + 1)), (Reply.mk 0 (r.seq + 1) ((sTake r.slots).2.1) 1 1))))))) else (if c.verb = 9 then (run0 () ((xR r), (Reply.mk 0 (r.seq + 1) (Handle.mk 0 0) 0 0))) else (if (!((gPlace (xR r) c.name).2)) = true then (run0 () ((xR r), (Reply.mk 154 (r.seq + 1) (Handle.mk 0 0) 0 0))) else (run1 (if c.want ≠ 0 then (decide (c.want ≠ ((xA r c).version))) else false) (fun x_8 => (if x_8 = true then (run0 () ((xR r), (Reply.mk 155 (r.seq + 1) (Handle.mk 0 0) 0 0))) else (if c.verb = 2 then (if ¬ (((xA r c).state) ≠ 2) then (run0 () ((xR r), (Reply.mk 156 (r.seq + 1) (Handle.mk 0 0) 0 0))) else (run0 () ((Registry.mk r.slots (putX r.l (Tenant.mk ((xA r c).handle) ((xA r c).name) 2 (((xA r c).version) + 1) ((xA r c).rules) ((xA r c).creds) 0)) (r.seq + 1)), (Reply.mk 0 (r.seq + 1) ((xA r c).handle) (((xA r c).version) + 1) 2)))) else (if c.verb = 3 then (if ¬ (((xA r c).state) = 2) then (run0 () ((xR r), (Reply.mk 156 (r.seq + 1) (Handle.mk 0 0) 0 0))) else (run0 () ((Registry.mk r.slots (putX r.l (Tenant.mk ((xA r c).handle) ((xA r c).name) 1 (((xA r c).version) + 1) ((xA r c).rules) ((xA r c).creds) 0)) (r.seq + 1)), (Reply.mk 0 (r.seq + 1) ((xA r c).handle) (((xA r c).version) + 1) 1)))) else (if c.verb = 4 then (if ¬ (((xA r c).state) = 1) then (run0 () ((xR r), (Reply.mk 156 (r.seq + 1) (Handle.mk 0 0) 0 0))) else (if c.n < 1 then (run0 () ((xR r), (Reply.mk 2 (r.seq + 1) (Handle.mk 0 0) 0 0))) else (if 1000000000 < c.n then (run0 () ((xR r), (Reply.mk 2 (r.seq + 1) (Handle.mk 0 0) 0 0))) else (if 1000000000000 < (now + c.n) then (run0 () ((xR r), (Reply.mk 2 (r.seq + 1) (Handle.mk 0 0) 0 0))) else (run0 () ((Registry.mk r.slots (putX r.l (Tenant.mk ((xA r c).handle) ((xA r c).name) 3 (((xA r c).version) + 1) ((xA r c).rules) ((xA r c).creds) (now + c.n))) (r.seq + 1)), (Reply.mk 0 (r.seq + 1) ((xA r c).handle) (((xA r c).version) + 1) 3))))))) else (if c.verb = 6 then (if ((cRot ((xA r c).creds) c.key now c.n c.m).2.2) ≠ 0 then (run0 () ((xR r), (Reply.mk ((cRot ((xA r c).creds) c.key now c.n c.m).2.2) (r.seq + 1) (Handle.mk 0 0) 0 0))) else (run0 () ((Registry.mk r.slots (putX r.l (Tenant.mk ((xA r c).handle) ((xA r c).name) ((xA r c).state) (((xA r c).version) + 1) ((xA r c).rules) ((cRot ((xA r c).creds) c.key now c.n c.m).1) ((xA r c).deadline))) (r.seq + 1)), (Reply.mk 0 (r.seq + 1) ((xA r c).handle) (((xA r c).version) + 1) ((xA r c).state))))) else (if c.verb = 7 then (if 0 ≤ c.at_ then (if ((aclInsert ((xA r c).rules) c.at_ c.rule).2) ≠ 0 then (run0 () ((xR r), (Reply.mk ((aclInsert ((xA r c).rules) c.at_ c.rule).2) (r.seq + 1) (Handle.mk 0 0) 0 0))) else (run0 () ((Registry.mk r.slots (putX r.l (Tenant.mk ((xA r c).handle) ((xA r c).name) ((xA r c).state) (((xA r c).version) + 1) ((aclInsert ((xA r c).rules) c.at_ c.rule).1) ((xA r c).creds) ((xA r c).deadline))) (r.seq + 1)), (Reply.mk 0 (r.seq + 1) ((xA r c).handle) (((xA r c).version) + 1) ((xA r c).state))))) else (if ((aclRemove ((xA r c).rules) (IntKind.wrap .i64 (0 - (c.at_ + 1)))).2) ≠ 0 then (run0 () ((xR r), (Reply.mk ((aclRemove ((xA r c).rules) (IntKind.wrap .i64 (0 - (c.at_ + 1)))).2) (r.seq + 1) (Handle.mk 0 0) 0 0))) else (run0 () ((Registry.mk r.slots (putX r.l (Tenant.mk ((xA r c).handle) ((xA r c).name) ((xA r c).state) (((xA r c).version) + 1) ((aclRemove ((xA r c).rules) (IntKind.wrap .i64 (0 - (c.at_ + 1)))).1) ((xA r c).creds) ((xA r c).deadline))) (r.seq + 1)), (Reply.mk 0 (r.seq + 1) ((xA r c).handle) (((xA r c).version) + 1) ((xA r c).state)))))) else (if c.verb = 5 then (run0 () ((Registry.mk ((sGive r.slots ((xA r c).handle)).1) (delL r.l ((gPlace (xR r) c.name).1).toNat (((gPlace (xR r) c.name).1) + 1).toNat) (r.seq + 1)), (Reply.mk 0 (r.seq + 1) ((xA r c).handle) (((xA r c).version) + 1) ((xA r c).state)))) else (if c.verb = 8 then (run0 () ((xR r), (Reply.mk 0 (r.seq + 1) ((xA r c).handle) ((xA r c).version) ((xA r c).state)))) else (if c.verb = 10 then (run0 () ((xR r), (Reply.mk 0 (r.seq + 1) ((xA r c).handle) ((xA r c).version) ((xA r c).state)))) else default)))))))))))))))))))
end Go.Proofs.YtopjaeoklkpcpaaGreatDoor.Jd

namespace Go.Proofs.YtopjaeoklkpcpaaGreatDoor.Jd
open Go.Proofs
open Go.RowKit (Below)
set_option maxRecDepth 100000
set_option maxHeartbeats 8000000
set_option linter.unusedVariables false
set_option linter.unusedSimpArgs false
def cFew_l0 (l : List Cred) : Nat → List Cred → Nat → (List Cred) × Nat
  | 0, out_1, i_2 => (out_1, i_2)
  | n_3 + 1, out_1, i_2 => (if ((i_2 : Nat) : Int) < ((l.length : Nat) : Int) then (if ((i_2 : Nat) : Int) < 6 then (cFew_l0 l n_3 (out_1 ++ ([(Cred.mk ((l.getD i_2 default).id) (((l.getD i_2 default).key).take (min ((l.getD i_2 default).key).length 65)) ((l.getD i_2 default).frm) ((l.getD i_2 default).to))] : List Cred)) (i_2 + 1)) else (out_1, i_2)) else (out_1, i_2))
def cFew (l : List Cred) : List Cred := (run2 (cFew_l0 l (6 + 1) [] 0) (fun out_1 i_2 => out_1))
end Go.Proofs.YtopjaeoklkpcpaaGreatDoor.Jd

namespace Go.Proofs.YtopjaeoklkpcpaaGreatDoor.Jd
open Go.Proofs
open Go.RowKit (Below)
set_option maxRecDepth 100000
set_option maxHeartbeats 8000000
set_option linter.unusedVariables false
set_option linter.unusedSimpArgs false
def rsRight_l2 (s : Slots) (free_1 : Nat) (i_2 : Nat) (i_8 : Nat) : Nat → Nat → Except Bool Nat
  | 0, k_13 => .ok (k_13)
  | n_14 + 1, k_13 => (if ((k_13 : Nat) : Int) < ((i_8 : Nat) : Int) then (if (s.free.getD k_13 default) = (s.free.getD i_8 default) then .error false else (rsRight_l2 s free_1 i_2 i_8 n_14 (k_13 + 1))) else .ok (k_13))
def rsRight_l1 (s : Slots) (free_1 : Nat) (i_2 : Nat) : Nat → Nat → Except Bool Nat
  | 0, i_8 => .ok (i_8)
  | n_9 + 1, i_8 => (if ((i_8 : Nat) : Int) < ((s.free.length : Nat) : Int) then (if (s.free.getD i_8 default) < 0 then .error false else (if ((s.gens.length : Nat) : Int) ≤ (s.free.getD i_8 default) then .error false else (if (s.used.getD (((s.free.getD i_8 default)).toNat) default) = true then .error false else (outc1 (rsRight_l2 s free_1 i_2 i_8 (i_8 + 1) 0) (fun r => .error r) (fun k_13 => (rsRight_l1 s free_1 i_2 n_9 (i_8 + 1))))))) else .ok (i_8))
def rsRight_l0 (s : Slots) : Nat → Nat → Nat → Except Bool (Nat × Nat)
  | 0, free_1, i_2 => .ok (free_1, i_2)
  | n_3 + 1, free_1, i_2 => (if ((i_2 : Nat) : Int) < ((s.gens.length : Nat) : Int) then (if (s.gens.getD i_2 default) < 0 then .error false else (if 1000000000 < (s.gens.getD i_2 default) then .error false else (if (!(s.used.getD i_2 default)) = true then (rsRight_l0 s n_3 (free_1 + 1) (i_2 + 1)) else (rsRight_l0 s n_3 free_1 (i_2 + 1))))) else .ok (free_1, i_2))
def rsRight (s : Slots) : Bool := (if ((s.gens.length : Nat) : Int) < 1 then false else (if 64 < ((s.gens.length : Nat) : Int) then false else (if ((s.used.length : Nat) : Int) ≠ ((s.gens.length : Nat) : Int) then false else (outc2 (rsRight_l0 s (s.gens.length + 1) 0 0) (fun r => r) (fun free_1 i_2 => (outc1 (rsRight_l1 s free_1 i_2 (s.free.length + 1) 0) (fun r => r) (fun i_8 => decide (((s.free.length : Nat) : Int) = ((free_1 : Nat) : Int)))))))))
def rsValid (s : Slots) (h : Handle) : Bool := (if (rsRight s) = true then (if 0 ≤ h.slot then (if h.slot < ((s.gens.length : Nat) : Int) then (if (s.used.getD ((h.slot).toNat) default) = true then decide ((s.gens.getD ((h.slot).toNat) default) = h.gen) else false) else false) else false) else false)
def rsTake (s : Slots) : Slots × Handle × Int := (if (!(rsRight s)) = true then ((Slots.mk ([]) ([]) ([])), (Handle.mk 0 0), 90) else (if (((s.free.length : Nat) : Int) - 1) < 0 then ((Slots.mk ([]) ([]) ([])), (Handle.mk 0 0), 92) else (if (s.gens.getD (((s.free.getD (((((s.free.length : Nat) : Int) - 1)).toNat) default)).toNat) default) = 1000000000 then ((Slots.mk ([]) ([]) ([])), (Handle.mk 0 0), 92) else ((Slots.mk (((s).gens).set (((((s).free).getD (((((s.free.length : Nat) : Int) - 1)).toNat) default)).toNat) ((((s).gens).getD (((((s).free).getD (((((s.free.length : Nat) : Int) - 1)).toNat) default)).toNat) default) + 1)) (((s).used).set (((((s).free).getD (((((s.free.length : Nat) : Int) - 1)).toNat) default)).toNat) true) (((s).free).take (((((s.free.length : Nat) : Int) - 1)).toNat))), (Handle.mk (((s).free).getD (((((s.free.length : Nat) : Int) - 1)).toNat) default) ((((s).gens).set (((((s).free).getD (((((s.free.length : Nat) : Int) - 1)).toNat) default)).toNat) ((((s).gens).getD (((((s).free).getD (((((s.free.length : Nat) : Int) - 1)).toNat) default)).toNat) default) + 1)).getD (((((s).free).getD (((((s.free.length : Nat) : Int) - 1)).toNat) default)).toNat) default)), 0))))
def rsGive (s : Slots) (h : Handle) : Slots × Int := (if (!(rsRight s)) = true then ((Slots.mk ([]) ([]) ([])), 90) else (if (!(rsValid s h)) = true then ((Slots.mk ([]) ([]) ([])), 91) else ((Slots.mk ((s).gens) (((s).used).set ((h.slot).toNat) false) (((s).free) ++ ([h.slot] : List Int))), 0)))
end Go.Proofs.YtopjaeoklkpcpaaGreatDoor.Jd

namespace Go.Proofs.YtopjaeoklkpcpaaGreatDoor.Jd
open Go.Proofs
open Go.RowKit (Below)
set_option maxRecDepth 100000
set_option maxHeartbeats 8000000
set_option linter.unusedVariables false
set_option linter.unusedSimpArgs false
def gCut_l0 (r : Registry) : Nat → Nat → List Tenant → Nat × (List Tenant)
  | 0, i_2, x_3 => (i_2, x_3)
  | n_4 + 1, i_2, x_3 => (if ((i_2 : Nat) : Int) < ((r.l.length : Nat) : Int) then (if ((i_2 : Nat) : Int) < 8 then (gCut_l0 r n_4 (i_2 + 1) (x_3 ++ ([(Tenant.mk ((r.l.getD i_2 default).handle) (((r.l.getD i_2 default).name).take (min ((r.l.getD i_2 default).name).length 41)) ((r.l.getD i_2 default).state) ((r.l.getD i_2 default).version) (lFew8 ((r.l.getD i_2 default).rules)) (cFew ((r.l.getD i_2 default).creds)) ((r.l.getD i_2 default).deadline))] : List Tenant))) else (i_2, x_3)) else (i_2, x_3))
def gCut (r : Registry) : Registry := (run0 () (run2 (gCut_l0 r (8 + 1) 0 []) (fun i_2 x_3 => (Registry.mk (Slots.mk (r.slots.gens.take (min r.slots.gens.length 66)) (r.slots.used.take (min r.slots.used.length 66)) (r.slots.free.take (min r.slots.free.length 66))) x_3 r.seq))))
def gShown  : Bool := (if ((gNew 2).2) ≠ 0 then false else (if (((gApply ((gNew 2).1) 3 (Command.mk 1 ([97, 99, 109, 101] : Str) 0 0 (Rule.mk false (Prefix.mk 0 0) (PortsT.mk 0 0)) ([107] : Str) 100 0) 0)).2.err) = 0 ∧ (((gApply ((gNew 2).1) 3 (Command.mk 1 ([97, 99, 109, 101] : Str) 0 0 (Rule.mk false (Prefix.mk 0 0) (PortsT.mk 0 0)) ([107] : Str) 100 0) 0)).2.seq) = 1 ∧ (((gApply ((gNew 2).1) 3 (Command.mk 1 ([97, 99, 109, 101] : Str) 0 0 (Rule.mk false (Prefix.mk 0 0) (PortsT.mk 0 0)) ([107] : Str) 100 0) 0)).2.handle.slot) = 0 ∧ (((gApply ((gNew 2).1) 3 (Command.mk 1 ([97, 99, 109, 101] : Str) 0 0 (Rule.mk false (Prefix.mk 0 0) (PortsT.mk 0 0)) ([107] : Str) 100 0) 0)).2.handle.gen) = 1 ∧ (((gApply ((gNew 2).1) 3 (Command.mk 1 ([97, 99, 109, 101] : Str) 0 0 (Rule.mk false (Prefix.mk 0 0) (PortsT.mk 0 0)) ([107] : Str) 100 0) 0)).2.version) = 1 ∧ (((gApply ((gNew 2).1) 3 (Command.mk 1 ([97, 99, 109, 101] : Str) 0 0 (Rule.mk false (Prefix.mk 0 0) (PortsT.mk 0 0)) ([107] : Str) 100 0) 0)).2.state) = 1 then (if (((gApply (((gApply ((gNew 2).1) 3 (Command.mk 1 ([97, 99, 109, 101] : Str) 0 0 (Rule.mk false (Prefix.mk 0 0) (PortsT.mk 0 0)) ([107] : Str) 100 0) 0)).1) 2 (Command.mk 2 ([97, 99, 109, 101] : Str) 0 0 (Rule.mk false (Prefix.mk 0 0) (PortsT.mk 0 0)) ([] : Str) 0 0) 1)).2.err) = 0 ∧ (((gApply (((gApply ((gNew 2).1) 3 (Command.mk 1 ([97, 99, 109, 101] : Str) 0 0 (Rule.mk false (Prefix.mk 0 0) (PortsT.mk 0 0)) ([107] : Str) 100 0) 0)).1) 2 (Command.mk 2 ([97, 99, 109, 101] : Str) 0 0 (Rule.mk false (Prefix.mk 0 0) (PortsT.mk 0 0)) ([] : Str) 0 0) 1)).2.seq) = 2 ∧ (((gApply (((gApply ((gNew 2).1) 3 (Command.mk 1 ([97, 99, 109, 101] : Str) 0 0 (Rule.mk false (Prefix.mk 0 0) (PortsT.mk 0 0)) ([107] : Str) 100 0) 0)).1) 2 (Command.mk 2 ([97, 99, 109, 101] : Str) 0 0 (Rule.mk false (Prefix.mk 0 0) (PortsT.mk 0 0)) ([] : Str) 0 0) 1)).2.handle.slot) = 0 ∧ (((gApply (((gApply ((gNew 2).1) 3 (Command.mk 1 ([97, 99, 109, 101] : Str) 0 0 (Rule.mk false (Prefix.mk 0 0) (PortsT.mk 0 0)) ([107] : Str) 100 0) 0)).1) 2 (Command.mk 2 ([97, 99, 109, 101] : Str) 0 0 (Rule.mk false (Prefix.mk 0 0) (PortsT.mk 0 0)) ([] : Str) 0 0) 1)).2.handle.gen) = 1 ∧ (((gApply (((gApply ((gNew 2).1) 3 (Command.mk 1 ([97, 99, 109, 101] : Str) 0 0 (Rule.mk false (Prefix.mk 0 0) (PortsT.mk 0 0)) ([107] : Str) 100 0) 0)).1) 2 (Command.mk 2 ([97, 99, 109, 101] : Str) 0 0 (Rule.mk false (Prefix.mk 0 0) (PortsT.mk 0 0)) ([] : Str) 0 0) 1)).2.version) = 2 ∧ (((gApply (((gApply ((gNew 2).1) 3 (Command.mk 1 ([97, 99, 109, 101] : Str) 0 0 (Rule.mk false (Prefix.mk 0 0) (PortsT.mk 0 0)) ([107] : Str) 100 0) 0)).1) 2 (Command.mk 2 ([97, 99, 109, 101] : Str) 0 0 (Rule.mk false (Prefix.mk 0 0) (PortsT.mk 0 0)) ([] : Str) 0 0) 1)).2.state) = 2 then (if (((gApply (((gApply (((gApply ((gNew 2).1) 3 (Command.mk 1 ([97, 99, 109, 101] : Str) 0 0 (Rule.mk false (Prefix.mk 0 0) (PortsT.mk 0 0)) ([107] : Str) 100 0) 0)).1) 2 (Command.mk 2 ([97, 99, 109, 101] : Str) 0 0 (Rule.mk false (Prefix.mk 0 0) (PortsT.mk 0 0)) ([] : Str) 0 0) 1)).1) 2 (Command.mk 2 ([97, 99, 109, 101] : Str) 0 0 (Rule.mk false (Prefix.mk 0 0) (PortsT.mk 0 0)) ([] : Str) 0 0) 2)).2.err) = 156 ∧ (((gApply (((gApply (((gApply ((gNew 2).1) 3 (Command.mk 1 ([97, 99, 109, 101] : Str) 0 0 (Rule.mk false (Prefix.mk 0 0) (PortsT.mk 0 0)) ([107] : Str) 100 0) 0)).1) 2 (Command.mk 2 ([97, 99, 109, 101] : Str) 0 0 (Rule.mk false (Prefix.mk 0 0) (PortsT.mk 0 0)) ([] : Str) 0 0) 1)).1) 2 (Command.mk 2 ([97, 99, 109, 101] : Str) 0 0 (Rule.mk false (Prefix.mk 0 0) (PortsT.mk 0 0)) ([] : Str) 0 0) 2)).2.seq) = 3 ∧ (((gApply (((gApply (((gApply ((gNew 2).1) 3 (Command.mk 1 ([97, 99, 109, 101] : Str) 0 0 (Rule.mk false (Prefix.mk 0 0) (PortsT.mk 0 0)) ([107] : Str) 100 0) 0)).1) 2 (Command.mk 2 ([97, 99, 109, 101] : Str) 0 0 (Rule.mk false (Prefix.mk 0 0) (PortsT.mk 0 0)) ([] : Str) 0 0) 1)).1) 2 (Command.mk 2 ([97, 99, 109, 101] : Str) 0 0 (Rule.mk false (Prefix.mk 0 0) (PortsT.mk 0 0)) ([] : Str) 0 0) 2)).2.handle.slot) = 0 ∧ (((gApply (((gApply (((gApply ((gNew 2).1) 3 (Command.mk 1 ([97, 99, 109, 101] : Str) 0 0 (Rule.mk false (Prefix.mk 0 0) (PortsT.mk 0 0)) ([107] : Str) 100 0) 0)).1) 2 (Command.mk 2 ([97, 99, 109, 101] : Str) 0 0 (Rule.mk false (Prefix.mk 0 0) (PortsT.mk 0 0)) ([] : Str) 0 0) 1)).1) 2 (Command.mk 2 ([97, 99, 109, 101] : Str) 0 0 (Rule.mk false (Prefix.mk 0 0) (PortsT.mk 0 0)) ([] : Str) 0 0) 2)).2.handle.gen) = 0 ∧ (((gApply (((gApply (((gApply ((gNew 2).1) 3 (Command.mk 1 ([97, 99, 109, 101] : Str) 0 0 (Rule.mk false (Prefix.mk 0 0) (PortsT.mk 0 0)) ([107] : Str) 100 0) 0)).1) 2 (Command.mk 2 ([97, 99, 109, 101] : Str) 0 0 (Rule.mk false (Prefix.mk 0 0) (PortsT.mk 0 0)) ([] : Str) 0 0) 1)).1) 2 (Command.mk 2 ([97, 99, 109, 101] : Str) 0 0 (Rule.mk false (Prefix.mk 0 0) (PortsT.mk 0 0)) ([] : Str) 0 0) 2)).2.version) = 0 ∧ (((gApply (((gApply (((gApply ((gNew 2).1) 3 (Command.mk 1 ([97, 99, 109, 101] : Str) 0 0 (Rule.mk false (Prefix.mk 0 0) (PortsT.mk 0 0)) ([107] : Str) 100 0) 0)).1) 2 (Command.mk 2 ([97, 99, 109, 101] : Str) 0 0 (Rule.mk false (Prefix.mk 0 0) (PortsT.mk 0 0)) ([] : Str) 0 0) 1)).1) 2 (Command.mk 2 ([97, 99, 109, 101] : Str) 0 0 (Rule.mk false (Prefix.mk 0 0) (PortsT.mk 0 0)) ([] : Str) 0 0) 2)).2.state) = 0 then (if (((gApply (((gApply (((gApply (((gApply ((gNew 2).1) 3 (Command.mk 1 ([97, 99, 109, 101] : Str) 0 0 (Rule.mk false (Prefix.mk 0 0) (PortsT.mk 0 0)) ([107] : Str) 100 0) 0)).1) 2 (Command.mk 2 ([97, 99, 109, 101] : Str) 0 0 (Rule.mk false (Prefix.mk 0 0) (PortsT.mk 0 0)) ([] : Str) 0 0) 1)).1) 2 (Command.mk 2 ([97, 99, 109, 101] : Str) 0 0 (Rule.mk false (Prefix.mk 0 0) (PortsT.mk 0 0)) ([] : Str) 0 0) 2)).1) 1 (Command.mk 5 ([97, 99, 109, 101] : Str) 0 0 (Rule.mk false (Prefix.mk 0 0) (PortsT.mk 0 0)) ([] : Str) 0 0) 3)).2.err) = 151 ∧ (((gApply (((gApply (((gApply (((gApply ((gNew 2).1) 3 (Command.mk 1 ([97, 99, 109, 101] : Str) 0 0 (Rule.mk false (Prefix.mk 0 0) (PortsT.mk 0 0)) ([107] : Str) 100 0) 0)).1) 2 (Command.mk 2 ([97, 99, 109, 101] : Str) 0 0 (Rule.mk false (Prefix.mk 0 0) (PortsT.mk 0 0)) ([] : Str) 0 0) 1)).1) 2 (Command.mk 2 ([97, 99, 109, 101] : Str) 0 0 (Rule.mk false (Prefix.mk 0 0) (PortsT.mk 0 0)) ([] : Str) 0 0) 2)).1) 1 (Command.mk 5 ([97, 99, 109, 101] : Str) 0 0 (Rule.mk false (Prefix.mk 0 0) (PortsT.mk 0 0)) ([] : Str) 0 0) 3)).2.seq) = 4 ∧ (((gApply (((gApply (((gApply (((gApply ((gNew 2).1) 3 (Command.mk 1 ([97, 99, 109, 101] : Str) 0 0 (Rule.mk false (Prefix.mk 0 0) (PortsT.mk 0 0)) ([107] : Str) 100 0) 0)).1) 2 (Command.mk 2 ([97, 99, 109, 101] : Str) 0 0 (Rule.mk false (Prefix.mk 0 0) (PortsT.mk 0 0)) ([] : Str) 0 0) 1)).1) 2 (Command.mk 2 ([97, 99, 109, 101] : Str) 0 0 (Rule.mk false (Prefix.mk 0 0) (PortsT.mk 0 0)) ([] : Str) 0 0) 2)).1) 1 (Command.mk 5 ([97, 99, 109, 101] : Str) 0 0 (Rule.mk false (Prefix.mk 0 0) (PortsT.mk 0 0)) ([] : Str) 0 0) 3)).2.handle.slot) = 0 ∧ (((gApply (((gApply (((gApply (((gApply ((gNew 2).1) 3 (Command.mk 1 ([97, 99, 109, 101] : Str) 0 0 (Rule.mk false (Prefix.mk 0 0) (PortsT.mk 0 0)) ([107] : Str) 100 0) 0)).1) 2 (Command.mk 2 ([97, 99, 109, 101] : Str) 0 0 (Rule.mk false (Prefix.mk 0 0) (PortsT.mk 0 0)) ([] : Str) 0 0) 1)).1) 2 (Command.mk 2 ([97, 99, 109, 101] : Str) 0 0 (Rule.mk false (Prefix.mk 0 0) (PortsT.mk 0 0)) ([] : Str) 0 0) 2)).1) 1 (Command.mk 5 ([97, 99, 109, 101] : Str) 0 0 (Rule.mk false (Prefix.mk 0 0) (PortsT.mk 0 0)) ([] : Str) 0 0) 3)).2.handle.gen) = 0 ∧ (((gApply (((gApply (((gApply (((gApply ((gNew 2).1) 3 (Command.mk 1 ([97, 99, 109, 101] : Str) 0 0 (Rule.mk false (Prefix.mk 0 0) (PortsT.mk 0 0)) ([107] : Str) 100 0) 0)).1) 2 (Command.mk 2 ([97, 99, 109, 101] : Str) 0 0 (Rule.mk false (Prefix.mk 0 0) (PortsT.mk 0 0)) ([] : Str) 0 0) 1)).1) 2 (Command.mk 2 ([97, 99, 109, 101] : Str) 0 0 (Rule.mk false (Prefix.mk 0 0) (PortsT.mk 0 0)) ([] : Str) 0 0) 2)).1) 1 (Command.mk 5 ([97, 99, 109, 101] : Str) 0 0 (Rule.mk false (Prefix.mk 0 0) (PortsT.mk 0 0)) ([] : Str) 0 0) 3)).2.version) = 0 ∧ (((gApply (((gApply (((gApply (((gApply ((gNew 2).1) 3 (Command.mk 1 ([97, 99, 109, 101] : Str) 0 0 (Rule.mk false (Prefix.mk 0 0) (PortsT.mk 0 0)) ([107] : Str) 100 0) 0)).1) 2 (Command.mk 2 ([97, 99, 109, 101] : Str) 0 0 (Rule.mk false (Prefix.mk 0 0) (PortsT.mk 0 0)) ([] : Str) 0 0) 1)).1) 2 (Command.mk 2 ([97, 99, 109, 101] : Str) 0 0 (Rule.mk false (Prefix.mk 0 0) (PortsT.mk 0 0)) ([] : Str) 0 0) 2)).1) 1 (Command.mk 5 ([97, 99, 109, 101] : Str) 0 0 (Rule.mk false (Prefix.mk 0 0) (PortsT.mk 0 0)) ([] : Str) 0 0) 3)).2.state) = 0 then (if ((gFind (((gApply (((gApply (((gApply (((gApply ((gNew 2).1) 3 (Command.mk 1 ([97, 99, 109, 101] : Str) 0 0 (Rule.mk false (Prefix.mk 0 0) (PortsT.mk 0 0)) ([107] : Str) 100 0) 0)).1) 2 (Command.mk 2 ([97, 99, 109, 101] : Str) 0 0 (Rule.mk false (Prefix.mk 0 0) (PortsT.mk 0 0)) ([] : Str) 0 0) 1)).1) 2 (Command.mk 2 ([97, 99, 109, 101] : Str) 0 0 (Rule.mk false (Prefix.mk 0 0) (PortsT.mk 0 0)) ([] : Str) 0 0) 2)).1) 1 (Command.mk 5 ([97, 99, 109, 101] : Str) 0 0 (Rule.mk false (Prefix.mk 0 0) (PortsT.mk 0 0)) ([] : Str) 0 0) 3)).1) ([97, 99, 109, 101] : Str)).2) = true then (if ((gFind (((gApply (((gApply (((gApply (((gApply ((gNew 2).1) 3 (Command.mk 1 ([97, 99, 109, 101] : Str) 0 0 (Rule.mk false (Prefix.mk 0 0) (PortsT.mk 0 0)) ([107] : Str) 100 0) 0)).1) 2 (Command.mk 2 ([97, 99, 109, 101] : Str) 0 0 (Rule.mk false (Prefix.mk 0 0) (PortsT.mk 0 0)) ([] : Str) 0 0) 1)).1) 2 (Command.mk 2 ([97, 99, 109, 101] : Str) 0 0 (Rule.mk false (Prefix.mk 0 0) (PortsT.mk 0 0)) ([] : Str) 0 0) 2)).1) 1 (Command.mk 5 ([97, 99, 109, 101] : Str) 0 0 (Rule.mk false (Prefix.mk 0 0) (PortsT.mk 0 0)) ([] : Str) 0 0) 3)).1) ([97, 99, 109, 101] : Str)).1.version) = 2 then (gRight (((gApply (((gApply (((gApply (((gApply ((gNew 2).1) 3 (Command.mk 1 ([97, 99, 109, 101] : Str) 0 0 (Rule.mk false (Prefix.mk 0 0) (PortsT.mk 0 0)) ([107] : Str) 100 0) 0)).1) 2 (Command.mk 2 ([97, 99, 109, 101] : Str) 0 0 (Rule.mk false (Prefix.mk 0 0) (PortsT.mk 0 0)) ([] : Str) 0 0) 1)).1) 2 (Command.mk 2 ([97, 99, 109, 101] : Str) 0 0 (Rule.mk false (Prefix.mk 0 0) (PortsT.mk 0 0)) ([] : Str) 0 0) 2)).1) 1 (Command.mk 5 ([97, 99, 109, 101] : Str) 0 0 (Rule.mk false (Prefix.mk 0 0) (PortsT.mk 0 0)) ([] : Str) 0 0) 3)).1)) else false) else false) else false) else false) else false) else false))
end Go.Proofs.YtopjaeoklkpcpaaGreatDoor.Jd

namespace Go.Proofs.YtopjaeoklkpcpaaGreatDoor.Jd
open Go.Proofs
open Go.RowKit (Below)
set_option maxRecDepth 100000
set_option maxHeartbeats 8000000
set_option linter.unusedVariables false
set_option linter.unusedSimpArgs false
theorem PL_28 : Places Tryz.prog 28 [(0, 3), (3, 1), (4, 1)] := ⟨_, fun w => Tryz.runUnderlying28 w, fun w => by simp⟩
theorem PL_52 : Places Tryz.prog 52 [(0, 2), (2, 1), (3, 1), (4, 1), (5, 1), (6, 1), (7, 1)] := ⟨_, fun w => Tryz.runUnderlying52 w, fun w => by simp⟩
theorem TY_52 : Ty Tryz.prog 52 8 104 (Value.agg [(vi 0), (vi 0), (vt ([] : Str)), (vi 0), (vi 0), (vs none 0 0), (vs none 0 0), (vi 0)].toArray) := ⟨⟨Tryz.t52, by kernel_rfl, rfl, rfl, rfl⟩, rfl⟩
theorem gTOwn_ok (w : World) {t_1_rules_a : Option Addr} {t_1_rules_c : Nat} {t_1_creds_a : Option Addr} {t_1_creds_c : Nat} {t : (Tenant × Int)} (h_t_1_rules : Sl w eRule 5 t_1_rules_a t.1.rules) (n_t_1_rules : t.1.rules.length ≤ 1000) (h_t_1_creds : Sl w eCred 4 t_1_creds_a t.1.creds) (n_t_1_creds : t.1.creds.length ≤ 1000) : Calls Tryz.prog 47 (List.toArray [(Value.agg [(vi t.1.handle.slot), (vi t.1.handle.gen), (vt t.1.name), (vi t.1.state), (vi t.1.version), (vs t_1_rules_a t.1.rules.length t_1_rules_c), (vs t_1_creds_a t.1.creds.length t_1_creds_c), (vi t.1.deadline), (vi t.2)].toArray)]) w fun e w2 => ∃ a1 : Option Addr, ∃ c1 : Nat, ∃ a2 : Option Addr, ∃ c2 : Nat, ∃ B1 : Heap, ∃ B2 : Heap, e = .returned (Value.agg [(vi t.1.handle.slot), (vi t.1.handle.gen), (vt t.1.name), (vi t.1.state), (vi t.1.version), (vs a1 t.1.rules.length c1), (vs a2 t.1.creds.length c2), (vi t.1.deadline)].toArray) ∧ Fresh w w2 (B1 ++ B2) ∧ OwnB eRule 5 34 a1 c1 B1 t.1.rules ∧ OwnB eCred 4 62 a2 c2 B2 t.1.creds := by
 have hF := Is.refl t.1
 refine enter Tryz.func47 Tryz.ntmps47 (h := ?_)
 refine Z2 ?_
 refine JL_a noMk (a_box (l := [_, _, _, _, _, _, _, _, _])) (k := fun r1 hr1 => ?_)
 refine JL_a noMk (a_alloc (l := [_, _, _, _, _, _, _, _]) Tryz.zeroValue52) (k := fun r2 hr2 => ?_)
 refine Z72 ?_
 refine J_plan mixed 10 [(true, 0), (true, 1), (true, 2), (true, 4), (true, 5), (true, 6), (false, 3), (true, 8), (true, 9), (false, 7)] (by kernel_rfl) ?_
 refine JD_q (q_fld FO_88_0) (k := ?_)
 refine JD_q (q_fld FO_52_4) (k := ?_)
 refine JD_q (q_load Tryz.isAgg49) (k := ?_)
 refine JD_q (q_fld FO_88_0) (k := ?_)
 refine JD_q (q_fld FO_52_5) (k := ?_)
 refine JD_q (q_load Tryz.isAgg50) (k := ?_)
 refine JD_p (c_callA Tryz.call82) (fun w1 hw1 => ruClone_ok w1 (s := t.1.rules) (h_s := (SlJ.of_base h_t_1_rules) w1 hw1) (n_s := by first | exact lb | decide)) (k := ?_)
 rintro w1_1 e1_1 w2_1 hw1_1 ⟨a1_1, c1_1, B1_1, he_1, hf_1, ho1_1⟩
 refine ⟨_, _, _, he_1, hf_1, rfl, ?_⟩
 refine JD_q (q_fld FO_88_0) (k := ?_)
 refine JD_q (q_fld FO_52_4) (k := ?_)
 refine JD_p (c_callA Tryz.call83) (fun w1 hw1 => crClone_ok w1 (s := t.1.creds) (h_s := (SlJ.of_base h_t_1_creds) w1 hw1) (n_s := by first | exact lb | decide)) (k := ?_)
 rintro w1_2 e1_2 w2_2 hw1_2 ⟨a1_2, c1_2, B1_2, he_2, hf_2, ho1_2⟩
 refine ⟨_, _, _, he_2, hf_2, rfl, ?_⟩
 refine JD_nil0 ?_
 refine JL_s (w_store (l' := [_, _, _, _, _, _, _, _, _]) Tryz.sizeOf49) (k := ?_)
 refine Z512 ?_
 refine JL_q (q_fld FO_52_5) (k := ?_)
 refine JL_s (w_store (l' := [_, _, _, _, _, _, _, _, _]) Tryz.sizeOf50) (k := ?_)
 refine Z320 ?_
 refine Z512 ?_
 refine Z517 ?_
 refine Z518 ?_
 refine Z44 ?_
 refine JX_ret Tryz.results47 (Res.agg Tryz.isAgg52 Tryz.sizeOf52 rfl me rfl Res.nil) (fun w1 hw1 => ?_)
 exact ⟨a1_1, c1_1, a1_2, c1_2, B1_1, B1_2, (by rw [hF.eq] <;> first | rfl | (simp only [List.length_set] <;> rfl)), (fresh_segs (L := (B1_1 ++ B1_2)) (hw1.perm (q0.trans (qd q0))) (nA rfl).symm), (by rw [hF.eq]; exact ho1_1), (by rw [hF.eq]; exact ho1_2)⟩

theorem gOwn_ok (w : World) {r_slots_gens_a : Option Addr} {r_slots_gens_c : Nat} {r_slots_used_a : Option Addr} {r_slots_used_c : Nat} {r_slots_free_a : Option Addr} {r_slots_free_c : Nat} {r_l_a : Option Addr} {r_l_c : Nat} {r_l_t : List TA} {r : Registry} (h_r_slots_gens : Sl w eI 1 r_slots_gens_a r.slots.gens) (n_r_slots_gens : r.slots.gens.length ≤ 1000) (h_r_slots_used : Sl w eB 1 r_slots_used_a r.slots.used) (n_r_slots_used : r.slots.used.length ≤ 1000) (h_r_slots_free : Sl w eI 1 r_slots_free_a r.slots.free) (n_r_slots_free : r.slots.free.length ≤ 1000) (h_r_l : SlN w eTenant 8 DT r_l_a r.l r_l_t) (n_r_l : r.l.length ≤ 1000) (k_r_l : r.l.length ≤ r_l_c) (hsm : Small r.l) : Calls Tryz.prog 39 (List.toArray [(Value.agg [(vs r_slots_gens_a r.slots.gens.length r_slots_gens_c), (vs r_slots_used_a r.slots.used.length r_slots_used_c), (vs r_slots_free_a r.slots.free.length r_slots_free_c), (vs r_l_a r.l.length r_l_c), (vi r.seq)].toArray)]) w fun e w2 => ∃ a1 : Option Addr, ∃ c1 : Nat, ∃ a2 : Option Addr, ∃ c2 : Nat, ∃ a3 : Option Addr, ∃ c3 : Nat, ∃ a4 : Option Addr, ∃ c4 : Nat, ∃ t4 : List TA, ∃ B : Heap, e = .returned (Value.agg [(vs a1 ((gOwn r).slots.gens.length) c1), (vs a2 ((gOwn r).slots.used.length) c2), (vs a3 ((gOwn r).slots.free.length) c3), (vs a4 ((gOwn r).l.length) c4), (vi ((gOwn r).seq))].toArray) ∧ Fresh w w2 B ∧ SlB B eI 1 a1 (gOwn r).slots.gens ∧ SlB B eB 1 a2 (gOwn r).slots.used ∧ SlB B eI 1 a3 (gOwn r).slots.free ∧ (SlNB B eTenant 8 DT a4 (gOwn r).l t4 ∧ (gOwn r).l.length ≤ c4) ∧ (gOwn r).slots.gens.length ≤ 1000 ∧ (gOwn r).slots.used.length ≤ 1000 ∧ (gOwn r).slots.free.length ≤ 1000 ∧ (gOwn r).l.length ≤ 1000 := by
 have hF := Is.refl (gOwn r)
 refine enterD Tryz.func39 Tryz.ntmps39 (h := ?_)
 refine Z2 ?_
 refine JL_a noMk (a_box (l := [_, _, _, _, _])) (k := fun r1 hr1 => ?_)
 refine JL_a noMk (a_alloc (l := [_, _, _, _, _]) Tryz.zeroValue28) (k := fun r2 hr2 => ?_)
 refine Z320 ?_
 refine JL_a noMk (a_alloc (l := [_]) Tryz.zeroValue26) (k := fun r3 hr3 => ?_)
 refine Z72 ?_
 refine Z284 ?_
 refine Z2 ?_
 refine JL_a noMk (a_box (l := [_, _, _, _, _])) (k := fun r4 hr4 => ?_)
 refine Z438 ?_
 refine Z357 ?_
 refine J_rangeI noMk rfl Tryz.call85 Tryz.func85 Tryz.ntmps85 (fun l5 rD5 rr5 hl5 => ?_)
 refine Z439 ?_
 refine Z324 ?_
 refine Z121 ?_
 refine J_loop8 (σ1 := Nat) (σ2 := Nat) (σ3 := List Tenant) (σ4 := List TA) (σ5 := Option Addr) (σ6 := Nat) (σ7 := Heap) (σ8 := Heap) (fun n_3 x_1 x_2 x_2t x_2a x_2c x_2B x_2R => (x_2B ++ (x_2R ++ ((l5, loopAt rr5 .ready none) :: ((rD5, Obj.deferred (some [])) :: ((r4, oc [(vs r_slots_gens_a r.slots.gens.length r_slots_gens_c), (vs r_slots_used_a r.slots.used.length r_slots_used_c), (vs r_slots_free_a r.slots.free.length r_slots_free_c), (vs r_l_a r.l.length r_l_c), (vi r.seq)] 28) :: ((r3, oc [(vs x_2a x_2.length x_2c)] 26) :: ((r2, oc [(vs none 0 0), (vs none 0 0), (vs none 0 0), (vs none 0 0), (vi 0)] 28) :: ((r1, oc [(vs r_slots_gens_a r.slots.gens.length r_slots_gens_c), (vs r_slots_used_a r.slots.used.length r_slots_used_c), (vs r_slots_free_a r.slots.free.length r_slots_free_c), (vs r_l_a r.l.length r_l_c), (vi r.seq)] 28) :: []))))))))) (fun n_3 x_1 x_2 x_2t x_2a x_2c x_2B x_2R => [(0, (Value.func (.yield l5) [].toArray [].toArray)), (1, (Value.pointer (some ⟨r4, 0, none⟩))), (6, (vs r_l_a r.l.length r_l_c)), (7, (vi ((r.l.length : Nat) : Int))), (8, (vi ((x_1 : Nat) : Int)))]) (fun n_3 x_1 x_2 x_2t x_2a x_2c x_2B x_2R => r.l.length - x_1 < n_3 ∧ Is (gOwn_l0 r (r.l.length + 1) 0 []) (gOwn_l0 r n_3 x_1 x_2) ∧ (OwnB eTenant 8 52 x_2a x_2c x_2B (List.zip x_2 x_2t) ∧ DeepB x_2R DT x_2 x_2t) ∧ x_2.length ≤ x_1 ∧ x_1 ≤ r.l.length) (fun n_3 x_1 x_2 x_2t x_2a x_2c x_2B x_2R => n_3) (r.l.length + 1) 0 ([]) ([]) none 0 ([]) ([]) ?_ se (List.Perm.of_eq (by first | rfl | simp only [List.append_assoc, List.cons_append, List.nil_append])) ?_
 ·exact ⟨Nat.lt_succ_self _, Is.refl _, ⟨OwnB.nil, DeepB.nil⟩, (by first | omega | rfl | (simp; done)), (by first | omega | rfl | (simp; done))⟩
 ·rintro (_ | n_3) x_1 x_2 x_2t x_2a x_2c x_2B x_2R ⟨hm5, hF4, ⟨hx_2, hdx_2⟩, hi6, hi7⟩
  ·omega
  refine Z38 ?_
  refine J_dec rfl (fun hq1 => ?_) (fun hq1 => ?_)
  rotate_left
  ·refine J_exit ?_
   refine Z191 ?_
   refine JX_it0 (.inr rfl) Tryz.results85 (qc (qc q0)) ?_
   refine Z452 ?_
   refine Z224 ?_
   refine JL_a noMk (a_alloc (l := [_, _, _]) Tryz.zeroValue25) (k := fun r9 hr9 => ?_)
   refine Z519 ?_
   refine Z72 ?_
   refine J_plan mixed 14 [(true, 0), (true, 1), (true, 3), (true, 4), (true, 6), (true, 7), (true, 10), (true, 11), (true, 12), (false, 2), (false, 5), (false, 8), (true, 9), (true, 13)] (by kernel_rfl) ?_
   refine Z83 ?_
   refine Z262 ?_
   refine Z263 ?_
   refine JD_q (q_load Tryz.isAgg26) (k := ?_)
   refine Z380 ?_
   refine JD_p (c_callA Tryz.call71) (fun w1 hw1 => inClone_ok w1 (s := r.slots.gens) (h_s := (SlJ.of_base h_r_slots_gens) w1 hw1) (n_s := by first | omega | (simp; done) | exact (hsm _ (by omega)).1 | exact (hsm _ (by omega)).2)) (k := ?_)
   rintro w1_5 e1_5 w2_5 hw1_5 ⟨a1_5, c1_5, B1_5, he_5, hf_5, ho1_5⟩
   refine ⟨_, _, _, he_5, hf_5, rfl, ?_⟩
   refine JD_p (c_callA Tryz.call72) (fun w1 hw1 => boClone_ok w1 (s := r.slots.used) (h_s := (SlJ.of_base h_r_slots_used) w1 hw1) (n_s := by first | omega | (simp; done) | exact (hsm _ (by omega)).1 | exact (hsm _ (by omega)).2)) (k := ?_)
   rintro w1_6 e1_6 w2_6 hw1_6 ⟨a1_6, c1_6, B1_6, he_6, hf_6, ho1_6⟩
   refine ⟨_, _, _, he_6, hf_6, rfl, ?_⟩
   refine JD_p (c_callA Tryz.call71) (fun w1 hw1 => inClone_ok w1 (s := r.slots.free) (h_s := (SlJ.of_base h_r_slots_free) w1 hw1) (n_s := by first | omega | (simp; done) | exact (hsm _ (by omega)).1 | exact (hsm _ (by omega)).2)) (k := ?_)
   rintro w1_7 e1_7 w2_7 hw1_7 ⟨a1_7, c1_7, B1_7, he_7, hf_7, ho1_7⟩
   refine ⟨_, _, _, he_7, hf_7, rfl, ?_⟩
   refine JD_q (q_build (cs := [_, _, _]) Tryz.zeroValue25 PL_25) (k := ?_)
   refine JD_q (q_build (cs := [_, _, _, _, _]) Tryz.zeroValue28 PL_28) (k := ?_)
   refine JD_nil0 ?_
   refine Z143 ?_
   refine JX_retD [rD5] (qc (qc (qc (qa (qa (qc (qc q0))))))) Tryz.results39 (Res.agg Tryz.isAgg28 Tryz.sizeOf28 rfl me rfl Res.nil) (fun w1 hw1 => ?_)
   exact ⟨a1_5, c1_5, a1_6, c1_6, a1_7, c1_7, x_2a, x_2c, x_2t, (B1_5 ++ (B1_6 ++ (B1_7 ++ (x_2B ++ x_2R)))), (by rw [(hF.rn2 (hF4.neg hq1)).eq] <;> first | rfl | (simp only [List.length_set] <;> rfl)), (fresh_segs (L := (B1_5 ++ (B1_6 ++ (B1_7 ++ (x_2B ++ x_2R))))) (hw1.perm (((((qd (qd (qd (qb (qb (qd q0)))))).trans (qd (qd (qd (qd (qb (qb q0))))))).trans (qd (qd q0))).trans (qd (qd (qd q0)))).trans (qd (qd (qd (qd q0)))))) (nA (nA (nA (nA rfl)))).symm), (by rw [(hF.rn2 (hF4.neg hq1)).eq]; exact (ho1_5.slb eI_ok)), (by rw [(hF.rn2 (hF4.neg hq1)).eq]; exact (ho1_6.slb eB_ok)), (by rw [(hF.rn2 (hF4.neg hq1)).eq]; exact (ho1_7.slb eI_ok)), (by rw [(hF.rn2 (hF4.neg hq1)).eq]; exact ⟨((OwnB.nb (U := (x_2B ++ x_2R)) eTenant_ok hx_2 hdx_2 (hB := sh) (hR := sh)).mono sh), (by have h0 := hx_2.le'; rwa [zip_len hdx_2.1] at h0)⟩), (by rw [(hF.rn2 (hF4.neg hq1)).eq]; first | exact lb), (by rw [(hF.rn2 (hF4.neg hq1)).eq]; first | exact lb), (by rw [(hF.rn2 (hF4.neg hq1)).eq]; first | exact lb), (by rw [(hF.rn2 (hF4.neg hq1)).eq]; first | exact lb)⟩
  refine Z460 ?_
  refine Z185 ?_
  have hcp2 := (h_r_l.2.2 x_1 (by first | exact ix)).2.2.1
  have hcp3 := (h_r_l.2.2 x_1 (by first | exact ix)).2.2.2
  refine Z516 ?_
  refine JL_a noMk (a_alloc (l := [_, _, _, _, _, _, _, _]) Tryz.zeroValue52) (k := fun r6 hr6 => ?_)
  refine Z429 ?_
  refine Z39 ?_
  refine Z343 ?_
  refine JL_yIn (vs := [(vi ((x_1 : Nat) : Int)), (Value.agg [(vi ((r.l.getD x_1 default).handle.slot)), (vi ((r.l.getD x_1 default).handle.gen)), (vt ((r.l.getD x_1 default).name)), (vi ((r.l.getD x_1 default).state)), (vi ((r.l.getD x_1 default).version)), (vs ((r_l_t.getD x_1 default).ra) ((r.l.getD x_1 default).rules.length) ((r_l_t.getD x_1 default).rc)), (vs ((r_l_t.getD x_1 default).ca) ((r.l.getD x_1 default).creds.length) ((r_l_t.getD x_1 default).cc)), (vi ((r.l.getD x_1 default).deadline)), (vi r.seq)].toArray)]) hl5 (qa (qc (qc q0))) y_call ?_
  refine Z486 ?_
  refine JL_a noMk (a_alloc (l := [_, _, _, _, _, _, _, _, _]) Tryz.zeroValue88) (k := fun r7 hr7 => ?_)
  refine Z266 ?_
  refine Z106 ?_
  refine J_planV _ _ (vp (qb (qb (qb q0))) (nA nE)) mixed 5 [(true, 0), (true, 1), (false, 2), (false, 3), (false, 4)] (by kernel_rfl) ?_
  refine JD_q (q_load Tryz.isAgg26) (k := ?_)
  refine JD_q (q_loadA Tryz.isAgg88 Tryz.sizeOf88) (k := ?_)
  refine JD_p (c_callA Tryz.call47) (fun w1 hw1 => gTOwn_ok w1 (t := ((r.l.getD x_1 default), r.seq)) (h_t_1_rules := (fun w hw => ((SlNJ.of_base DT_ok h_r_l).at (m := x_1) (by first | exact ix) w hw).1) w1 hw1) (n_t_1_rules := by first | omega | (simp; done) | exact (hsm _ (by omega)).1 | exact (hsm _ (by omega)).2) (h_t_1_creds := (fun w hw => ((SlNJ.of_base DT_ok h_r_l).at (m := x_1) (by first | exact ix) w hw).2.1) w1 hw1) (n_t_1_creds := by first | omega | (simp; done) | exact (hsm _ (by omega)).1 | exact (hsm _ (by omega)).2)) (k := ?_)
  rintro w1_4 e1_4 w2_4 hw1_4 ⟨a1_4, c1_4, a2_4, c2_4, B1_4, B2_4, he_4, hf_4, ho1_4, ho2_4⟩
  refine ⟨_, _, _, he_4, hf_4, (nA rfl).symm, ?_⟩
  refine JD_a noMk (a_bslice (l := [_, _, _, _, _, _, _, _]) Tryz.runUnderlying26 Tryz.sizeOf52 Tryz.zeroValue52) (k := fun r8 hr8 => ?_)
  refine JD_append (List.zip (x_2 ++ ([(((r.l.getD x_1 default), r.seq).1)] : List Tenant)) (x_2t ++ ([⟨a1_4, c1_4, a2_4, c2_4⟩] : List TA))) (List.zip_append hdx_2.1.symm).symm TY_52 Tryz.underlying26 eTenant_ok hx_2 q0 (OwnB.nj eTenant_ok (OwnB.mk (xs := List.zip ([(((r.l.getD x_1 default), r.seq).1)] : List Tenant) ([⟨a1_4, c1_4, a2_4, c2_4⟩] : List TA)) rfl rfl eTenant_ok) (DeepB.one (B := (B1_4 ++ (B2_4 ++ []))) (D := DT) (fun w hw => ⟨(ho1_4.sl eRule_ok (shw hw)), (ho2_4.sl eCred_ok (shw hw)), ho1_4.le', ho2_4.le'⟩)) (hB := sh) (hR := sh)).sl ⟨by first | exact lb, by first | exact lb⟩ (n := x_2.length) (m := 1) (hn := (zip_len hdx_2.1)) (hm := (zip_len (DeepB.one (B := (B1_4 ++ (B2_4 ++ []))) (D := DT) (fun w hw => ⟨(ho1_4.sl eRule_ok (shw hw)), (ho2_4.sl eCred_ok (shw hw)), ho1_4.le', ho2_4.le'⟩)).1)) (k := fun ax2 cx2 Bx2 hox2 => ?_)
  have hzl2 : (List.zip (x_2 ++ ([(((r.l.getD x_1 default), r.seq).1)] : List Tenant)) (x_2t ++ ([⟨a1_4, c1_4, a2_4, c2_4⟩] : List TA))).length = (x_2 ++ ([(((r.l.getD x_1 default), r.seq).1)] : List Tenant)).length := zip_len (by rw [List.length_append, List.length_append, hdx_2.1, (DeepB.one (B := (B1_4 ++ (B2_4 ++ []))) (D := DT) (fun w hw => ⟨(ho1_4.sl eRule_ok (shw hw)), (ho2_4.sl eCred_ok (shw hw)), ho1_4.le', ho2_4.le'⟩)).1])
  rw [hzl2]
  have hal2 : (x_2 ++ ([(((r.l.getD x_1 default), r.seq).1)] : List Tenant)).length = x_2.length + 1 := List.length_append
  have hdp4 : DeepB (x_2R ++ (B1_4 ++ (B2_4 ++ []))) DT (x_2 ++ ([(((r.l.getD x_1 default), r.seq).1)] : List Tenant)) (x_2t ++ ([⟨a1_4, c1_4, a2_4, c2_4⟩] : List TA)) := DeepB.append (hdx_2.mono sh) ((DeepB.one (B := (B1_4 ++ (B2_4 ++ []))) (D := DT) (fun w hw => ⟨(ho1_4.sl eRule_ok (shw hw)), (ho2_4.sl eCred_ok (shw hw)), ho1_4.le', ho2_4.le'⟩)).mono sh)
  refine Z273 ?_
  refine JL_s (w_store (l' := [_]) Tryz.sizeOf26) (k := ?_)
  refine JL_nil ?_
  refine JX_block ?_
  refine JX_roundI (qc (qa (qc (qc q0)))) ?_
  refine Z326 ?_
  refine Z306 ?_
  refine JX_permL _ ((((((((((qa (qc (qa (qc (qc (qa (qa (qc (qa (qa (qa (qa q0)))))))))))).trans (qa (qa (qc (qa (qc (qc (qa (qa (qc (qa (qa (qa q0))))))))))))).trans (qa (qa (qa (qc (qa (qc (qc (qa (qa (qc (qa (qa q0))))))))))))).trans (qa (qa (qa (qa (qc (qa (qc (qc (qa (qa (qc (qa q0))))))))))))).trans (qa (qa (qa (qa (qa (qc (qa (qc (qc (qa (qa (qc q0))))))))))))).trans (qa (qa (qa (qa (qa q0)))))).trans (qb (qb (qb (qb (qb (qb (qd (qb (qd q0)))))))))).trans (qd (qb (qb (qb (qb (qb (qb (qd (qb q0)))))))))).trans (qd (qd (qb (qb (qb (qb (qb (qb (qd (qb (qb (qb q0))))))))))))).trans (qd (qd (qd (qb (qb (qb (qb (qb (qb q0)))))))))) ?_
  refine JX_subL _ (List.Sublist.append (List.Sublist.refl _) (List.Sublist.append (List.Sublist.refl _) (List.Sublist.append (List.Sublist.refl _) (List.Sublist.append (List.Sublist.refl _) (List.Sublist.cons_cons _ (List.Sublist.cons_cons _ (List.Sublist.cons_cons _ (List.Sublist.cons_cons _ (List.Sublist.cons_cons _ (List.Sublist.cons_cons _ (List.nil_sublist _))))))))))) ?_
  exact JX_inv8 n_3 (x_1 + 1) (x_2 ++ ([(((r.l.getD x_1 default), r.seq).1)] : List Tenant)) (x_2t ++ ([⟨a1_4, c1_4, a2_4, c2_4⟩] : List TA)) ax2 cx2 Bx2 (x_2R ++ (B1_4 ++ B2_4)) ⟨by omega, (hF4.pos hq1), ⟨hox2, (hdp4.mono sh)⟩, (by omega), (by omega)⟩ (Nat.lt_succ_self _) se (List.Perm.of_eq (by first | rfl | simp only [List.append_assoc, List.cons_append, List.nil_append]))

theorem gOwn_ok2 (w : World) {r_slots_gens_a : Option Addr} {r_slots_gens_c : Nat} {r_slots_used_a : Option Addr} {r_slots_used_c : Nat} {r_slots_free_a : Option Addr} {r_slots_free_c : Nat} {r_l_a : Option Addr} {r_l_c : Nat} {r_l_t : List TA} {r : Registry} (h_r_slots_gens : Sl w eI 1 r_slots_gens_a r.slots.gens) (n_r_slots_gens : r.slots.gens.length ≤ 1000) (h_r_slots_used : Sl w eB 1 r_slots_used_a r.slots.used) (n_r_slots_used : r.slots.used.length ≤ 1000) (h_r_slots_free : Sl w eI 1 r_slots_free_a r.slots.free) (n_r_slots_free : r.slots.free.length ≤ 1000) (h_r_l : SlN w eTenant 8 DT r_l_a r.l r_l_t) (n_r_l : r.l.length ≤ 1000) (k_r_l : r.l.length ≤ r_l_c) (hsm : Small r.l) : Calls Tryz.prog 39 (List.toArray [(Value.agg [(vs r_slots_gens_a r.slots.gens.length r_slots_gens_c), (vs r_slots_used_a r.slots.used.length r_slots_used_c), (vs r_slots_free_a r.slots.free.length r_slots_free_c), (vs r_l_a r.l.length r_l_c), (vi r.seq)].toArray)]) w fun e w2 => ∃ a1 : Option Addr, ∃ c1 : Nat, ∃ a2 : Option Addr, ∃ c2 : Nat, ∃ a3 : Option Addr, ∃ c3 : Nat, ∃ a4 : Option Addr, ∃ c4 : Nat, ∃ t4 : List TA, ∃ B : Heap, e = .returned (Value.agg [(vs a1 r.slots.gens.length c1), (vs a2 r.slots.used.length c2), (vs a3 r.slots.free.length c3), (vs a4 r.l.length c4), (vi r.seq)].toArray) ∧ Fresh w w2 B ∧ SlB B eI 1 a1 r.slots.gens ∧ SlB B eB 1 a2 r.slots.used ∧ SlB B eI 1 a3 r.slots.free ∧ (SlNB B eTenant 8 DT a4 r.l t4 ∧ r.l.length ≤ c4) ∧ r.slots.gens.length ≤ 1000 ∧ r.slots.used.length ≤ 1000 ∧ r.slots.free.length ≤ 1000 ∧ r.l.length ≤ 1000 := by
 have h := gOwn_ok w (r_slots_gens_a := r_slots_gens_a) (r_slots_gens_c := r_slots_gens_c) (r_slots_used_a := r_slots_used_a) (r_slots_used_c := r_slots_used_c) (r_slots_free_a := r_slots_free_a) (r_slots_free_c := r_slots_free_c) (r_l_a := r_l_a) (r_l_c := r_l_c) (r_l_t := r_l_t) (r := r) h_r_slots_gens n_r_slots_gens h_r_slots_used n_r_slots_used h_r_slots_free n_r_slots_free h_r_l n_r_l k_r_l hsm
 simp only [gOwn_eq] at h
 exact h

theorem gFind_ok (w : World) {r_slots_gens_a : Option Addr} {r_slots_gens_c : Nat} {r_slots_used_a : Option Addr} {r_slots_used_c : Nat} {r_slots_free_a : Option Addr} {r_slots_free_c : Nat} {r_l_a : Option Addr} {r_l_c : Nat} {r_l_t : List TA} {r : Registry} {name : Str} (h_r_slots_gens : Sl w eI 1 r_slots_gens_a r.slots.gens) (n_r_slots_gens : r.slots.gens.length ≤ 1000) (h_r_slots_used : Sl w eB 1 r_slots_used_a r.slots.used) (n_r_slots_used : r.slots.used.length ≤ 1000) (h_r_slots_free : Sl w eI 1 r_slots_free_a r.slots.free) (n_r_slots_free : r.slots.free.length ≤ 1000) (h_r_l : SlN w eTenant 8 DT r_l_a r.l r_l_t) (n_r_l : r.l.length ≤ 1000) (k_r_l : r.l.length ≤ r_l_c) (hsm : Small r.l) : Calls Tryz.prog 20 (List.toArray [(Value.agg [(vs r_slots_gens_a r.slots.gens.length r_slots_gens_c), (vs r_slots_used_a r.slots.used.length r_slots_used_c), (vs r_slots_free_a r.slots.free.length r_slots_free_c), (vs r_l_a r.l.length r_l_c), (vi r.seq)].toArray), (vt name)]) w fun e w2 => ∃ a1 : Option Addr, ∃ c1 : Nat, ∃ a2 : Option Addr, ∃ c2 : Nat, ∃ B1 : Heap, ∃ B2 : Heap, e = .returned (Value.tuple [(Value.agg [(vi ((gFind r name).1.handle.slot)), (vi ((gFind r name).1.handle.gen)), (vt ((gFind r name).1.name)), (vi ((gFind r name).1.state)), (vi ((gFind r name).1.version)), (vs a1 ((gFind r name).1.rules.length) c1), (vs a2 ((gFind r name).1.creds.length) c2), (vi ((gFind r name).1.deadline))].toArray), (Value.bool ((gFind r name).2))].toArray) ∧ Fresh w w2 (B1 ++ B2) ∧ OwnB eRule 5 34 a1 c1 B1 (gFind r name).1.rules ∧ OwnB eCred 4 62 a2 c2 B2 (gFind r name).1.creds ∧ (gFind r name).1.rules.length ≤ 1000 ∧ (gFind r name).1.creds.length ≤ 1000 := by
 have hF := Is.refl (gFind r name)
 refine enter Tryz.func20 Tryz.ntmps20 (h := ?_)
 refine Z2 ?_
 refine JL_a noMk (a_box (l := [_, _, _, _, _])) (k := fun r1 hr1 => ?_)
 refine JL_a noMk (a_alloc (l := [_, _, _, _, _, _, _, _]) Tryz.zeroValue52) (k := fun r2 hr2 => ?_)
 refine Z1 ?_
 refine Z248 ?_
 refine JL_v (c_callA Tryz.call46) (fun w1 hw1 => gPlace_ok w1 (r := r) (name := name) (h_r_slots_gens := (SlJ.of_base h_r_slots_gens) w1 hw1) (n_r_slots_gens := by first | omega | (simp; done) | exact (hsm _ (by omega)).1 | exact (hsm _ (by omega)).2) (h_r_slots_used := (SlJ.of_base h_r_slots_used) w1 hw1) (n_r_slots_used := by first | omega | (simp; done) | exact (hsm _ (by omega)).1 | exact (hsm _ (by omega)).2) (h_r_slots_free := (SlJ.of_base h_r_slots_free) w1 hw1) (n_r_slots_free := by first | omega | (simp; done) | exact (hsm _ (by omega)).1 | exact (hsm _ (by omega)).2) (h_r_l := (SlNJ.of_base DT_ok h_r_l).2 w1 hw1) (n_r_l := by first | omega | (simp; done) | exact (hsm _ (by omega)).1 | exact (hsm _ (by omega)).2) (k_r_l := k_r_l)) (k := ?_)
 refine Z37 ?_
 refine Z488 ?_
 refine Z104 ?_
 refine Z189 ?_
 refine J_cond rfl (fun hq1 => ?_) (fun hq1 => ?_)
 ·refine J_seq ?_
  refine Z486 ?_
  refine Z520 ?_
  refine Z518 ?_
  refine Z41 ?_
  refine JX_ret Tryz.results20 (Res.agg Tryz.isAgg52 Tryz.sizeOf52 rfl me rfl (Res.tmp rfl Res.nil)) (fun w1 hw1 => ?_)
  exact ⟨none, 0, none, 0, [], [], (by rw [(hF.t hq1).eq] <;> first | rfl | (simp only [List.length_set] <;> rfl)), (hw1.fresh_out.sub (List.nil_sublist _)), (by rw [(hF.t hq1).eq]; exact OwnB.nil), (by rw [(hF.t hq1).eq]; exact OwnB.nil), (by rw [(hF.t hq1).eq]; first | omega | (simp; done) | exact (hsm _ (by omega)).1 | exact (hsm _ (by omega)).2 | (simp; done)), (by rw [(hF.t hq1).eq]; first | omega | (simp; done) | exact (hsm _ (by omega)).1 | exact (hsm _ (by omega)).2 | (simp; done))⟩
 have hfhq1 := gPlace_t (by simpa using hq1)
 refine Z167 ?_
 refine J_plan mixed 9 [(true, 0), (true, 1), (true, 2), (true, 3), (true, 4), (true, 5), (true, 6), (true, 7), (false, 8)] (by kernel_rfl) ?_
 refine Z322 ?_
 refine Z483 ?_
 refine JD_q (q_idx (n := r.l.length) Tryz.runUnderlying26 Tryz.sizeOf52 (((gPlace r name).1).toNat) (SlNJ.of_base DT_ok h_r_l).sl (zip_get h_r_l.1 (by first | exact ix)) (zip_len h_r_l.1)) (k := ?_)
 have hcp2 := (h_r_l.2.2 (((gPlace r name).1).toNat) (by first | exact ix)).2.2.1
 have hcp3 := (h_r_l.2.2 (((gPlace r name).1).toNat) (by first | exact ix)).2.2.2
 refine JD_q (q_loadEA Tryz.isAgg52 Tryz.sizeOf52 (((gPlace r name).1).toNat) (SlNJ.of_base DT_ok h_r_l).sl (zip_get h_r_l.1 (by first | exact ix))) (k := ?_)
 refine Z380 ?_
 refine JD_q (q_build (cs := [_, _, _, _, _, _, _, _, _]) Tryz.zeroValue88 PL_88) (k := ?_)
 refine JD_p (c_callA Tryz.call47) (fun w1 hw1 => gTOwn_ok w1 (t := ((r.l.getD (((gPlace r name).1).toNat) default), r.seq)) (h_t_1_rules := (fun w hw => ((SlNJ.of_base DT_ok h_r_l).at (m := ((gPlace r name).1).toNat) (by first | exact ix) w hw).1) w1 hw1) (n_t_1_rules := by first | omega | (simp; done) | exact (hsm _ (by omega)).1 | exact (hsm _ (by omega)).2) (h_t_1_creds := (fun w hw => ((SlNJ.of_base DT_ok h_r_l).at (m := ((gPlace r name).1).toNat) (by first | exact ix) w hw).2.1) w1 hw1) (n_t_1_creds := by first | omega | (simp; done) | exact (hsm _ (by omega)).1 | exact (hsm _ (by omega)).2)) (k := ?_)
 rintro w1_1 e1_1 w2_1 hw1_1 ⟨a1_1, c1_1, a2_1, c2_1, B1_1, B2_1, he_1, hf_1, ho1_1, ho2_1⟩
 refine ⟨_, _, _, he_1, hf_1, (nA rfl).symm, ?_⟩
 refine JD_nil0 ?_
 refine Z518 ?_
 refine Z6 ?_
 refine JX_ret Tryz.results20 (Res.agg Tryz.isAgg52 Tryz.sizeOf52 rfl me rfl (Res.tmp rfl Res.nil)) (fun w1 hw1 => ?_)
 exact ⟨a1_1, c1_1, a2_1, c2_1, B1_1, B2_1, (by rw [(hF.f hq1).eq] <;> first | rfl | (simp only [List.length_set] <;> rfl)), (fresh_segs (L := (B1_1 ++ B2_1)) (hw1.perm (List.Perm.refl _)) (nA rfl).symm), (by rw [(hF.f hq1).eq]; exact ho1_1), (by rw [(hF.f hq1).eq]; exact ho2_1), (by rw [(hF.f hq1).eq]; first | omega | (simp; done) | exact (hsm _ (by omega)).1 | exact (hsm _ (by omega)).2 | (simp; done)), (by rw [(hF.f hq1).eq]; first | omega | (simp; done) | exact (hsm _ (by omega)).1 | exact (hsm _ (by omega)).2 | (simp; done))⟩

theorem gNew_ok (w : World) {n_ : Int} : Calls Tryz.prog 29 (List.toArray [(vi n_)]) w fun e w2 => ∃ a1 : Option Addr, ∃ c1 : Nat, ∃ a2 : Option Addr, ∃ c2 : Nat, ∃ a3 : Option Addr, ∃ c3 : Nat, ∃ a4 : Option Addr, ∃ c4 : Nat, ∃ t4 : List TA, ∃ B : Heap, e = .returned (Value.tuple [(Value.agg [(vs a1 ((gNew n_).1.slots.gens.length) c1), (vs a2 ((gNew n_).1.slots.used.length) c2), (vs a3 ((gNew n_).1.slots.free.length) c3), (vs a4 ((gNew n_).1.l.length) c4), (vi ((gNew n_).1.seq))].toArray), (vi ((gNew n_).2))].toArray) ∧ Fresh w w2 B ∧ SlB B eI 1 a1 (gNew n_).1.slots.gens ∧ SlB B eB 1 a2 (gNew n_).1.slots.used ∧ SlB B eI 1 a3 (gNew n_).1.slots.free ∧ (SlNB B eTenant 8 DT a4 (gNew n_).1.l t4 ∧ (gNew n_).1.l.length ≤ c4) ∧ (gNew n_).1.slots.gens.length ≤ 1000 ∧ (gNew n_).1.slots.used.length ≤ 1000 ∧ (gNew n_).1.slots.free.length ≤ 1000 ∧ (gNew n_).1.l.length ≤ 1000 := by
 have hF := Is.refl (gNew n_)
 refine enter Tryz.func29 Tryz.ntmps29 (h := ?_)
 refine Z2 ?_
 refine JL_a noMk (a_alloc (l := [_, _, _, _, _]) Tryz.zeroValue28) (k := fun r1 hr1 => ?_)
 refine Z107 ?_
 refine JL_p (c_callA Tryz.call64) (fun w1 hw1 => sNew_ok w1 (n_ := n_)) (k := ?_)
 rintro w1_1 e1_1 w2_1 hw1_1 ⟨a1_1, c1_1, a2_1, c2_1, a3_1, c3_1, B_1, he_1, hf_1, hs1_1, hs2_1, hs3_1, hl1_1, hl2_1, hl3_1⟩
 refine ⟨_, _, he_1, hw1_1.fresh hf_1, ?_⟩
 refine Z37 ?_
 refine JL_a noMk (a_alloc (l := [_, _, _]) Tryz.zeroValue25) (k := fun r2 hr2 => ?_)
 refine Z519 ?_
 refine Z91 ?_
 refine Z482 ?_
 refine JL_q (q_build (cs := [_, _, _, _, _]) Tryz.zeroValue28 PL_28) (k := ?_)
 refine Z481 ?_
 refine Z521 ?_
 refine Z6 ?_
 refine JX_ret Tryz.results29 (Res.agg Tryz.isAgg28 Tryz.sizeOf28 rfl me rfl (Res.tmp rfl Res.nil)) (fun w1 hw1 => ?_)
 exact ⟨a1_1, c1_1, a2_1, c2_1, a3_1, c3_1, none, 0, [], B_1, (by rw [hF.eq] <;> first | rfl | (simp only [List.length_set] <;> rfl)), (fresh_segs (L := B_1) (hw1.perm (qb q0)) rfl.symm), (by unfold gNew; exact (hs1_1.mono (by intro p hp; repeat (first | exact hp | exact List.mem_append_left _ hp | apply List.mem_append_right | apply List.mem_cons_of_mem)))), (by unfold gNew; exact (hs2_1.mono (by intro p hp; repeat (first | exact hp | exact List.mem_append_left _ hp | apply List.mem_append_right | apply List.mem_cons_of_mem)))), (by unfold gNew; exact (hs3_1.mono (by intro p hp; repeat (first | exact hp | exact List.mem_append_left _ hp | apply List.mem_append_right | apply List.mem_cons_of_mem)))), (by unfold gNew; exact ⟨SlNB.nil, by first | (simp; done) | exact Nat.le_of_eq rfl⟩), (by unfold gNew; first | exact lb), (by unfold gNew; first | exact lb), (by unfold gNew; first | exact lb), (by unfold gNew; first | exact lb)⟩

end Go.Proofs.YtopjaeoklkpcpaaGreatDoor.Jd

namespace Go.Proofs.YtopjaeoklkpcpaaGreatDoor.Jd
open Go.Proofs
set_option maxRecDepth 100000
open Go.RowKit Go.Extern.Stop Go.Stop Go.Extern
set_option linter.unusedVariables false
set_option linter.unusedSimpArgs false
theorem at_nil (t : Value) (w : World) : Calls Tryz.prog 76 #[.nilIface, t] w fun e w' => e = .returned (.bool false) ∧ w' = w := by
  go_enter Tryz.func76, Tryz.ntmps76
  go_wp2
  go_ret
  exact ⟨rfl, rfl⟩
theorem at_nil_v (w : World) {t : Value} : Val Tryz.prog 76 [.nilIface, t] w (.bool false) :=
  (at_nil t w).mono fun e w' ⟨he, hw⟩ => ⟨he, hw ▸ Below.refl _ _⟩
theorem at_valueOfP (t : Addr) (w : World) : (ReflectliteValue.unpack (.iface 122 (.pointer (some t)))).run Tryz.prog w
    = .ok (.agg #[.pointer (some ⟨6, 122, none⟩), .pointer (some ⟨w.heap.size, 0, none⟩), .int .u64 150]) (w.alloc (.cells #[.pointer (some t)] 122)) := by kernel_rfl
theorem at_typeP (a : Addr) (w : World) : (ReflectliteValue.methodAny (ReflectliteValue.valueError "reflectlite.Value.Type" 0) (fun t _ _ _ => ReflectliteType.toType t) #[.agg #[.pointer (some ⟨6, 122, none⟩), .pointer (some a), .int .u64 150]]).run Tryz.prog w
    = .ok (.iface 199 (.agg #[.pointer (some ⟨6, 122, none⟩)])) w := by kernel_rfl
theorem at_methodKind (h : Value) (w : World) : (Go.method 373 199 (.agg #[h]) "Kind").run Tryz.prog w = .ok (196, h) w := by kernel_rfl
theorem at_kindP (w : World) : ((ReflectliteType.abiMethod fun t => (fun a : Nat => Value.int IntKind.u8 (a : Int)) <$> Rtype.kind t) #[.pointer (some ⟨6, 122, none⟩)]).run Tryz.prog w = .ok (.int .u8 22) w := by kernel_rfl
theorem at_kindW (w : World) : ((ReflectliteType.abiMethod fun t => (fun a : Nat => Value.int IntKind.u8 (a : Int)) <$> Rtype.kind t) #[.pointer (some ⟨6, 120, none⟩)]).run Tryz.prog w = .ok (.int .u8 25) w := by kernel_rfl
theorem at_rlm (z : Sem Value) (f : TypeId → Addr → Nat → Nat → Sem Value) (v : Value) :
    ReflectliteValue.method z f #[v] = (do match ← ReflectliteValue.parts v with | none => z | some (t, a, fl) => f t a fl (fl % 32)) := rfl
theorem at_partsP (a : Addr) (w : World) : (ReflectliteValue.parts (.agg #[.pointer (some ⟨6, 122, none⟩), .pointer (some a), .int .u64 150])).run Tryz.prog w = .ok (some (122, a, 150)) w := by kernel_rfl
theorem at_isNilP (a p : Addr) (W : World) (ha : W.cell? a = some (.pointer (some p))) :
    (ReflectliteValue.method (ReflectliteValue.valueError "reflectlite.Value.IsNil" 0) ReflectliteValue.isNil #[.agg #[.pointer (some ⟨6, 122, none⟩), .pointer (some a), .int .u64 150]]).run Tryz.prog W = .ok (.bool false) W := by
  rw [at_rlm]
  simp only [Sem.run_bind, at_partsP, Result.andThen]
  simp [ReflectliteValue.isNil, loadVar, isAgg, underlying, Tryz.underlying122, ha, Result.andThen]
theorem at_methodElem (h : Value) (w : World) : (Go.method 373 199 (.agg #[h]) "Elem").run Tryz.prog w = .ok (206, .agg #[h]) w := by kernel_rfl
theorem at_methodImplements (h : Value) (w : World) : (Go.method 373 199 (.agg #[h]) "Implements").run Tryz.prog w = .ok (207, .agg #[h]) w := by kernel_rfl
theorem at_methodAssignableTo (h : Value) (w : World) : (Go.method 373 199 (.agg #[h]) "AssignableTo").run Tryz.prog w = .ok (204, .agg #[h]) w := by kernel_rfl
theorem at_elemP (w : World) : (ReflectliteType.method ReflectliteType.elem #[.agg #[.pointer (some ⟨6, 122, none⟩)]]).run Tryz.prog w = .ok (.iface 199 (.agg #[.pointer (some ⟨6, 120, none⟩)])) w := by kernel_rfl
theorem at_implementsW (w : World) : (ReflectliteType.relation "Implements" ReflectliteType.implements_ #[.agg #[.pointer (some ⟨6, 120, none⟩)], .iface 199 (.agg #[.pointer (some ⟨6, 78, none⟩)])]).run Tryz.prog w = .ok (.bool true) w := by kernel_rfl
theorem at_typeOfW (v : Value) (w : World) : (ReflectliteType.typeOf #[.iface 120 v]).run Tryz.prog w = .ok (.iface 199 (.agg #[.pointer (some ⟨6, 120, none⟩)])) w := by kernel_rfl
theorem at_assignableW (w : World) : (ReflectliteType.relation "AssignableTo" ReflectliteType.assignableTo #[.agg #[.pointer (some ⟨6, 120, none⟩)], .iface 199 (.agg #[.pointer (some ⟨6, 120, none⟩)])]).run Tryz.prog w = .ok (.bool true) w := by kernel_rfl
theorem at_valueOfW (k : Int) (w : World) : (ReflectliteValue.unpack (.iface 120 (.agg #[.int .i64 k]))).run Tryz.prog w
    = .ok (.agg #[.pointer (some ⟨6, 120, none⟩), .pointer (some ⟨w.heap.size, 0, none⟩), .int .u64 153]) (w.alloc (.cells #[.int .i64 k] 120)) := by kernel_rfl
theorem at_elemOfP (w : World) : (Rtype.elem? 122).run Tryz.prog w = .ok (some 120) w := by kernel_rfl
theorem at_mkW (p : Addr) (w : World) : (ReflectliteValue.mk 120 p ReflectliteValue.flagAddr).run Tryz.prog w = .ok (.agg #[.pointer (some ⟨6, 120, none⟩), .pointer (some p), .int .u64 409]) w := by kernel_rfl
theorem at_elemVP (a p : Addr) (W : World) (ha : W.cell? a = some (.pointer (some p))) :
    (ReflectliteValue.method (ReflectliteValue.valueError "reflectlite.Value.Elem" 0) ReflectliteValue.elem #[.agg #[.pointer (some ⟨6, 122, none⟩), .pointer (some a), .int .u64 150]]).run Tryz.prog W
      = .ok (.agg #[.pointer (some ⟨6, 120, none⟩), .pointer (some p), .int .u64 409]) W := by
  rw [at_rlm]
  simp only [Sem.run_bind, at_partsP, Result.andThen]
  simp [ReflectliteValue.elem, loadVar, isAgg, underlying, Tryz.underlying122, ha, Result.andThen, at_elemOfP, at_mkW]
theorem at_rls (v x : Value) : ReflectliteValue.set #[v, x] = (do
    let (some (dst, a, fl), some (src, b, _)) := (← ReflectliteValue.parts v, ← ReflectliteValue.parts x)
      | unsupported (.noEntry "extern/(internal/reflectlite.Value).Set.zeroValue")
    if fl / ReflectliteValue.flagAddr % 2 == 0 then unsupported (.noEntry "extern/(internal/reflectlite.Value).Set.unaddressable")
    let val ← loadVar src b
    if ← Rtype.directlyAssignable dst src then storeVar dst a val
    else if ← Rtype.implements dst src then
      if (← Rtype.kind src) == 20 then
        match val with
        | .nilIface => unsupported (.noEntry "extern/reflectlite: a nil value of one interface type handed on as a value of another")
        | _ => storeVar dst a val
      else storeVar dst a (.iface src val)
    else panicString ("reflectlite.Set: value of type " ++ (← Rtype.spelt src) ++ " is not assignable to type " ++ (← Rtype.spelt dst))
    pure (.tuple #[])) := rfl
theorem at_partsA (a : Addr) (w : World) : (ReflectliteValue.parts (.agg #[.pointer (some ⟨6, 120, none⟩), .pointer (some a), .int .u64 409])).run Tryz.prog w = .ok (some (120, a, 409)) w := by kernel_rfl
theorem at_partsW (a : Addr) (w : World) : (ReflectliteValue.parts (.agg #[.pointer (some ⟨6, 120, none⟩), .pointer (some a), .int .u64 153])).run Tryz.prog w = .ok (some (120, a, 153)) w := by kernel_rfl
theorem at_directW (w : World) : (Rtype.directlyAssignable 120 120).run Tryz.prog w = .ok true w := by kernel_rfl
theorem at_sizeW (w : World) : (sizeOf 120).run Tryz.prog w = .ok 1 w := by kernel_rfl
theorem at_aggW (w : World) : (isAgg 120).run Tryz.prog w = .ok true w := by kernel_rfl
theorem at_setW (ta b : Addr) (k : Int) (old : Value) (W : World) (hb : W.cell? b = some (.int .i64 k)) (hsb : b.spot = none) (ht : W.cell? ta = some old) (hst : ta.spot = none) (hf : W.frozen? ta = false) :
    (ReflectliteValue.set #[.agg #[.pointer (some ⟨6, 120, none⟩), .pointer (some ta), .int .u64 409], .agg #[.pointer (some ⟨6, 120, none⟩), .pointer (some b), .int .u64 153]]).run Tryz.prog W
      = .ok (.tuple #[]) (W.setCell ta (.int .i64 k)) := by
  have hl : (loadCells b 1).run Tryz.prog W = .ok #[.int .i64 k] W := run_loadCells_list (P := Tryz.prog) W b [.int .i64 k] (fun j v hj => by
    rcases j with _ | j
    · cases hj
      simpa [Addr.add] using hb
    · simp at hj)
  rw [at_rls]
  simp only [Sem.run_bind, at_partsA, at_partsW, Result.andThen]
  simp [ReflectliteValue.flagAddr, loadVar, at_aggW, at_sizeW, hl, Result.andThen, at_directW, storeVar, Value.cells, storeCells, Addr.add]
  rw [run_store Tryz.prog W ta _ _ (by rfl)]
  simp [ht, hf]
set_option maxHeartbeats 4000000 in
theorem at_hit (k : Int) (t : Addr) (old : Value) (w : World) (hg : w.cell? ⟨0, 0, none⟩ = some (.iface 199 (.agg #[.pointer (some ⟨6, 78, none⟩)]))) (ht0 : w.cell? t = some old) (hst : t.spot = none) (hf0 : w.frozen? t = false) :
    Calls Tryz.prog 76 #[.iface 120 (.agg #[.int .i64 k]), .iface 122 (.pointer (some t))] w fun ev w' => ev = .returned (.bool true) ∧ w' = ((((w.alloc (.cells #[.pointer (some t)] 122)).alloc (.cells #[.pointer (some ⟨6, 122, none⟩), .pointer (some ⟨w.heap.size, 0, none⟩), .int .u64 150] 169)).alloc (.cells #[.pointer (some ⟨6, 122, none⟩), .pointer (some ⟨w.heap.size, 0, none⟩), .int .u64 150] 169)).alloc (.cells #[.int .i64 k] 120)).setCell t (.int .i64 k) := by
  have h6 := @run_callFunc_extern Tryz.prog 116 _ (fun args => ReflectliteValue.unpack (args.getD 0 (.tuple #[]))) Tryz.func116 (by kernel_rfl) (by kernel_rfl) (by kernel_rfl) (by kernel_rfl)
  have h7 := @run_callFunc_extern Tryz.prog 117 _ (ReflectliteValue.methodAny (ReflectliteValue.valueError "reflectlite.Value.Type" 0) (fun t _ _ _ => ReflectliteType.toType t)) Tryz.func117 (by kernel_rfl) (by kernel_rfl) (by kernel_rfl) (by kernel_rfl)
  have h8 := @run_callFunc_extern Tryz.prog 118 _ (ReflectliteValue.method (ReflectliteValue.valueError "reflectlite.Value.IsNil" 0) ReflectliteValue.isNil) Tryz.func118 (by kernel_rfl) (by kernel_rfl) (by kernel_rfl) (by kernel_rfl)
  have h27 := @run_callFunc_extern Tryz.prog 196 _ (ReflectliteType.abiMethod fun t => do pure (.int .u8 (← Rtype.kind t))) Tryz.func196 (by kernel_rfl) (by kernel_rfl) (by kernel_rfl) (by kernel_rfl)
  have h37 := @run_callFunc_extern Tryz.prog 206 _ (ReflectliteType.method ReflectliteType.elem) Tryz.func206 (by kernel_rfl) (by kernel_rfl) (by kernel_rfl) (by kernel_rfl)
  have h38 := @run_callFunc_extern Tryz.prog 207 _ (ReflectliteType.relation "Implements" ReflectliteType.implements_) Tryz.func207 (by kernel_rfl) (by kernel_rfl) (by kernel_rfl) (by kernel_rfl)
  have h10 := @run_callFunc_extern Tryz.prog 148 _ ReflectliteType.typeOf Tryz.func148 (by kernel_rfl) (by kernel_rfl) (by kernel_rfl) (by kernel_rfl)
  have h35 := @run_callFunc_extern Tryz.prog 204 _ (ReflectliteType.relation "AssignableTo" ReflectliteType.assignableTo) Tryz.func204 (by kernel_rfl) (by kernel_rfl) (by kernel_rfl) (by kernel_rfl)
  have h11 := @run_callFunc_extern Tryz.prog 149 _ (ReflectliteValue.method (ReflectliteValue.valueError "reflectlite.Value.Elem" 0) ReflectliteValue.elem) Tryz.func149 (by kernel_rfl) (by kernel_rfl) (by kernel_rfl) (by kernel_rfl)
  have h12 := @run_callFunc_extern Tryz.prog 150 _ ReflectliteValue.set Tryz.func150 (by kernel_rfl) (by kernel_rfl) (by kernel_rfl) (by kernel_rfl)
  have tO := at_typeOfW
  have mA := at_methodAssignableTo
  have a25 := at_assignableW
  have v25 := at_valueOfW
  have f6 := at_valueOfP
  have f7 := at_typeP
  have mK := at_methodKind
  have mE := at_methodElem
  have mI := at_methodImplements
  have k27 := at_kindP
  have k25 := at_kindW
  have e27 := at_elemP
  have i25 := at_implementsW
  have n8 := at_isNilP ⟨w.heap.size, 0, none⟩ t ((w.alloc (.cells #[.pointer (some t)] 122)).alloc (.cells #[.pointer (some ⟨6, 122, none⟩), .pointer (some ⟨w.heap.size, 0, none⟩), .int .u64 150] 169)) (by simp)
  have hlt : 0 < w.heap.size := by
    rcases Nat.lt_or_ge 0 w.heap.size with h | h
    · exact h
    · simp [World.cell?, Array.getElem?_eq_none h] at hg
  have hg2 : ((w.alloc (.cells #[.pointer (some t)] 122)).alloc (.cells #[.pointer (some ⟨6, 122, none⟩), .pointer (some ⟨w.heap.size, 0, none⟩), .int .u64 150] 169)).cell? ⟨0, 0, none⟩ = some (.iface 199 (.agg #[.pointer (some ⟨6, 78, none⟩)])) := by
    rw [World.cell?_alloc_lt _ _ ⟨0, 0, none⟩ (by first | (simp; done) | (simp; omega)), World.cell?_alloc_lt _ _ ⟨0, 0, none⟩ hlt]; exact hg
  have htl : t.block < w.heap.size := by
    rcases Nat.lt_or_ge t.block w.heap.size with h | h
    · exact h
    · simp [World.cell?, Array.getElem?_eq_none h] at ht0
  have el := at_elemVP ⟨w.heap.size, 0, none⟩ t (((w.alloc (.cells #[.pointer (some t)] 122)).alloc (.cells #[.pointer (some ⟨6, 122, none⟩), .pointer (some ⟨w.heap.size, 0, none⟩), .int .u64 150] 169)).alloc (.cells #[.pointer (some ⟨6, 122, none⟩), .pointer (some ⟨w.heap.size, 0, none⟩), .int .u64 150] 169)) (by rw [World.cell?_alloc_lt _ _ ⟨w.heap.size, 0, none⟩ (by simp; omega)]; simp)
  have st := at_setW t ⟨w.heap.size + 1 + 1 + 1, 0, none⟩ k old ((((w.alloc (.cells #[.pointer (some t)] 122)).alloc (.cells #[.pointer (some ⟨6, 122, none⟩), .pointer (some ⟨w.heap.size, 0, none⟩), .int .u64 150] 169)).alloc (.cells #[.pointer (some ⟨6, 122, none⟩), .pointer (some ⟨w.heap.size, 0, none⟩), .int .u64 150] 169)).alloc (.cells #[.int .i64 k] 120))
    (by rw [World.cell?_alloc_at _ _ _ _ (by simp)]; rfl) rfl
    (by rw [World.cell?_alloc_lt _ _ t (by first | (simp; done) | (simp; omega)), World.cell?_alloc_lt _ _ t (by simp; omega), World.cell?_alloc_lt _ _ t (by simp; omega), World.cell?_alloc_lt _ _ t htl]; exact ht0) hst
    (by rw [World.frozen?_alloc_old _ _ t (by simp; omega), World.frozen?_alloc_old _ _ t (by simp; omega), World.frozen?_alloc_old _ _ t (by simp; omega), World.frozen?_alloc_old _ _ t (Nat.ne_of_lt htl)]; exact hf0)
  go_enter Tryz.func76, Tryz.ntmps76
  go_wp2
  refine wp_loop_rounds 1 ?_
  rw [rounds_succ]
  go_wp2
  go_ret
  exact ⟨rfl, rfl⟩
theorem at_hit_t (w : World) {k : Int} {r : Nat} {old : Value} {T : TypeId} (hg : w.cell? ⟨0, 0, none⟩ = some (.iface 199 (.agg #[.pointer (some ⟨6, 78, none⟩)]))) (hr : w.heap[r]? = some (.cells [old].toArray T)) :
    Calls Tryz.prog 76 [.iface 120 (.agg [.int .i64 k].toArray), .iface 122 (.pointer (some ⟨r, 0, none⟩))].toArray w fun e w' => e = .returned (.bool true) ∧ Tr w w' [(r, .cells [old].toArray T)] [(r, .cells [Value.int .i64 k].toArray T)] := by
  have hlt := (Array.getElem?_eq_some_iff.1 hr).1
  refine (at_hit k ⟨r, 0, none⟩ old w hg (by simp [World.cell?, hr]) rfl (by simp [World.frozen?, hr])).mono ?_
  rintro e w' ⟨rfl, rfl⟩
  have hx : ∀ (o1 o2 o3 o4 : Obj) (j : Nat), j < w.heap.size → ((((w.alloc o1).alloc o2).alloc o3).alloc o4).heap[j]? = w.heap[j]? := fun o1 o2 o3 o4 j hj => by
    rw [Below.heap_alloc _ _ j (by simp; omega), Below.heap_alloc _ _ j (by simp; omega), Below.heap_alloc _ _ j (by simp; omega), Below.heap_alloc _ _ j hj]
  refine ⟨rfl, rfl, rfl, rfl, ?_, fun j hj hk => ?_, fun p hp => ?_, fun p hp => .inl ?_, by simp [keys]⟩
  · simp [World.setCell]; omega
  · rw [Below.heap_setCell _ _ _ j (fun e => hk (by subst e; simp [keys]))]
    exact hx _ _ _ _ j hj
  · have : p = (r, .cells [Value.int .i64 k].toArray T) := by simpa using hp
    subst this
    have h0 := hx (.cells #[.pointer (some ⟨r, 0, none⟩)] 122) (.cells #[.pointer (some ⟨6, 122, none⟩), .pointer (some ⟨w.heap.size, 0, none⟩), .int .u64 150] 169) (.cells #[.pointer (some ⟨6, 122, none⟩), .pointer (some ⟨w.heap.size, 0, none⟩), .int .u64 150] 169) (.cells #[.int .i64 k] 120) r hlt
    rw [hr] at h0
    simp only [World.setCell, Array.getElem?_modify, if_true]
    rw [h0]
    simp
  · have : p = (r, .cells [Value.int .i64 k].toArray T) := by simpa using hp
    subst this
    simp [keys]
end Go.Proofs.YtopjaeoklkpcpaaGreatDoor.Jd

