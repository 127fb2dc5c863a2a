/- Part of the proofs of this seat: walks and plain facts. No condition. -/
import Derived.Test.YtopjaeoklkpcpaaGreatDoorQ0
import Derived.Test.YtopjaeoklkpcpaaGreatDoorProg
import Derived.Test.YtopjaeoklkpcpaaGreatDoorRows
import Derived.ChangeMaps5
import Derived.Test.YtopjaeoklkpcpaaGreatDoorQ2
import Derived.Test.YtopjaeoklkpcpaaGreatDoorQ1
namespace Go.Proofs.YtopjaeoklkpcpaaGreatDoor.Jd
open Go.Proofs.Tryz
open Go.Proofs
open Go.RowKit (Below)
set_option maxRecDepth 100000
set_option maxHeartbeats 8000000
set_option linter.unusedVariables false
set_option linter.unusedSimpArgs false
theorem E1 : Bo Tryz.prog 156 0 0 := fun r k w => by simp [Instr.fieldAt, Instr.sureAddr, fieldPlace, Bc]
theorem E3 : Bo Tryz.prog 156 2 2 := fun r k w => by simp [Instr.fieldAt, Instr.sureAddr, fieldPlace, Bc]
theorem vC (w : World) {r : Int} : Hn Tryz.prog 139 [(vi r)] w (vi (Nd r)) := by
 have hF := Is.refl (Nd r)
 refine enter func139 ntmps139 (h := ?_)
 refine Ut ?_
 refine Ig ?_
 refine lS ?_
 refine J7 ?_
 refine J7 ?_
 refine J7 ?_
 refine Bg ?_
 refine Bg ?_
 refine Z2 ?_
 refine lW ?_
 refine Au rfl (fun hq1 => ?_) (fun hq1 => ?_)
 ·refine Ca ?_
  refine Lb ?_
  refine lU ?_
  refine Ea ?_
  refine fQ ?_
  refine Af hP (k := ?_)
  refine Wz ?_
  refine Z21 ?_
  refine Cg ?_
  refine Af hP (k := ?_)
  refine Wz ?_
  refine Xb ?_
  refine Z4 ?_
  refine Af hP (k := ?_)
  refine Z1 ?_
  refine Ca ?_
  refine Jy ?_
  refine Ea ?_
  refine Z4 ?_
  refine Z6 ?_
  refine Ab results139 z1 (fun w1 hw1 => ?_)
  exact ⟨(rq (hF.pos hq1)), hw1.ext_out⟩
 refine Js ?_
 refine Z2 ?_
 refine lW ?_
 refine Au rfl (fun hq2 => ?_) (fun hq2 => ?_)
 ·refine Ca ?_
  refine Lb ?_
  refine yK ?_
  refine lU ?_
  refine Ea ?_
  refine fQ ?_
  refine Af hP (k := ?_)
  refine Wz ?_
  refine Xb ?_
  refine Z4 ?_
  refine Af hP (k := ?_)
  refine Z1 ?_
  refine Ca ?_
  refine Jy ?_
  refine Ea ?_
  refine Z4 ?_
  refine Z6 ?_
  refine Ab results139 z1 (fun w1 hw1 => ?_)
  exact ⟨(rq ((hF.neg hq1).pos hq2)), hw1.ext_out⟩
 refine Rr ?_
 refine lW ?_
 refine Au rfl (fun hq3 => ?_) (fun hq3 => ?_)
 rotate_left
 ·refine Bq ?_
  refine Ea ?_
  refine Ca ?_
  refine Ox rfl ?_
  refine yK ?_
  refine yK ?_
  refine lU ?_
  refine Ea ?_
  refine Z4 ?_
  refine Z6 ?_
  refine Ab results139 z1 (fun w1 hw1 => ?_)
  exact ⟨(rq (((hF.neg hq1).neg hq2).neg hq3)), hw1.ext_out⟩
 refine Ca ?_
 refine yK ?_
 refine yK ?_
 refine lU ?_
 refine Ea ?_
 refine Z4 ?_
 refine Af hP (k := ?_)
 refine Z1 ?_
 refine Ca ?_
 refine Jy ?_
 refine Ea ?_
 refine Z4 ?_
 refine Z6 ?_
 refine Ab results139 z1 (fun w1 hw1 => ?_)
 exact ⟨(rq (((hF.neg hq1).neg hq2).pos hq3)), hw1.ext_out⟩

theorem pV (w : World) {ea0 : Addr} {ea1 : Addr} {ea2 : Addr} {ea3 : Addr} {n_ : Int} (hG : Gl w) (hE : Er w ea0 ea1 ea2 ea3) : Calls Tryz.prog 73 (List.toArray [(vi n_)]) w fun e w2 => ∃ a1 : Option Addr, ∃ c1 : Nat, ∃ B1 : Aj, e = .returned (vs a1 ((El n_).length) c1) ∧ Dh w w2 B1 ∧ Bi eI 1 3 a1 c1 B1 (El n_) ∧ (El n_).length ≤ 10 := by
 have hF := Is.refl (El n_)
 refine Wf func73 ntmps73 (h := ?_)
 refine cR ?_
 refine Ah Ag (Dn (l := [_]) zeroValue22) (k := fun r1 hr1 => ?_)
 refine Me ?_
 refine Z4 ?_
 refine Af dD (k := ?_)
 refine Fa (args := [_]) (Ad call108) func108 ntmps108 ?_
 refine Z2 ?_
 refine Ah Ag (Hi (l := [_])) (k := fun r2 hr2 => ?_)
 refine fW ?_
 refine Cc results108 z1 ?_
 refine lS ?_
 refine Ij Ag rfl call138 func138 ntmps138 (fun l3 rD3 rr3 hl3 => ?_)
 refine oW ?_
 obtain ⟨Thgl1, fhgl1, hgl1⟩ := hG.vb
 refine Af (zH isAgg193 sizeOf193 hgl1) (k := ?_)
 refine Lq ?_
 refine Lj ?_
 refine K8 ?_
 refine Af (Kc (m := 0) (n := 3) runUnderlying193 sizeOf156 isAgg156) (k := ?_)
 refine Ah Ag z7 (k := fun r4 hr4 => ?_)
 refine Gt ?_
 refine Ah Ag Jp (k := fun r5 hr5 => ?_)
 refine Gs ?_
 refine Ao 12 rfl (fun hq2 => ?_) (fun hq2 => ?_)
 rotate_left
 ·refine Ae 4 rfl ?_
  refine Qh ?_
  refine fO ?_
  refine Af (Kc (m := 1) (n := 3) runUnderlying193 sizeOf156 isAgg156) (k := ?_)
  refine Ah Ag z7 (k := fun r74 hr74 => ?_)
  refine Gt ?_
  refine Ah Ag Jp (k := fun r75 hr75 => ?_)
  refine Gs ?_
  refine Ao 12 rfl (fun hq22 => ?_) (fun hq22 => ?_)
  rotate_left
  ·refine Ae 4 rfl ?_
   refine Qh ?_
   refine M3 ?_
   refine Ah Ag z7 (k := fun r106 hr106 => ?_)
   refine Gt ?_
   refine Ah Ag Jp (k := fun r107 hr107 => ?_)
   refine Gs ?_
   refine Ao 12 rfl (fun hq32 => ?_) (fun hq32 => ?_)
   ·exact absurd hq32 hq22
   refine Uv ?_
   refine M4 ?_
   refine Ah Ag z7 (k := fun r108 hr108 => ?_)
   refine Gt ?_
   refine Ah Ag Jp (k := fun r109 hr109 => ?_)
   refine Gs ?_
   refine Ao 12 rfl (fun hq33 => ?_) (fun hq33 => ?_)
   ·exact absurd hq33 hq22
   refine Uv ?_
   refine M5 ?_
   refine Ah Ag z7 (k := fun r110 hr110 => ?_)
   refine Gt ?_
   refine Ah Ag Jp (k := fun r111 hr111 => ?_)
   refine Gs ?_
   refine Ao 12 rfl (fun hq34 => ?_) (fun hq34 => ?_)
   ·exact absurd hq34 hq2
   refine Uv ?_
   refine M6 ?_
   refine Ah Ag z7 (k := fun r112 hr112 => ?_)
   refine Gt ?_
   refine Ah Ag Jp (k := fun r113 hr113 => ?_)
   refine Gs ?_
   refine Ao 12 rfl (fun hq35 => ?_) (fun hq35 => ?_)
   ·exact absurd hq35 hq2
   refine Uv ?_
   refine M7 ?_
   refine Ah Ag z7 (k := fun r114 hr114 => ?_)
   refine Gt ?_
   refine Ah Ag Jp (k := fun r115 hr115 => ?_)
   refine Gs ?_
   refine Ao 12 rfl (fun hq36 => ?_) (fun hq36 => ?_)
   ·exact absurd hq36 hq2
   refine Uv ?_
   refine M8 ?_
   refine Ah Ag z7 (k := fun r116 hr116 => ?_)
   refine Gt ?_
   refine Ah Ag Jp (k := fun r117 hr117 => ?_)
   refine Gs ?_
   refine Ao 12 rfl (fun hq37 => ?_) (fun hq37 => ?_)
   ·exact absurd hq37 hq22
   refine Uv ?_
   refine M9 ?_
   refine Ah Ag z7 (k := fun r118 hr118 => ?_)
   refine Gt ?_
   refine Ah Ag Jp (k := fun r119 hr119 => ?_)
   refine Gs ?_
   refine Ao 12 rfl (fun hq38 => ?_) (fun hq38 => ?_)
   rotate_left
   ·refine Ae 4 rfl ?_
    refine Qh ?_
    refine bQ ?_
    refine lF ?_
    refine Ah Ag z7 (k := fun r126 hr126 => ?_)
    refine Gt ?_
    refine Ah Ag Jp (k := fun r127 hr127 => ?_)
    refine Gs ?_
    refine Ao 12 rfl (fun hq40 => ?_) (fun hq40 => ?_)
    ·exact absurd hq40 hq38
    refine Uv ?_
    refine bQ ?_
    refine Vx ?_
    refine Pl ?_
    refine Kb (.inr rfl) results138 (qa (qa (qa (qa (qa (qa (qa (qa (qa (qa (qa (qa (qa (qa (qa (qa (qa (qa (qa (qa q0)))))))))))))))))))) ?_
    refine Xb ?_
    refine lQ ?_
    refine Z6 ?_
    refine Du [rD3] (qa (qa (qa (qa (qa (qa (qa (qa (qa (qa (qa (qa (qa (qa (qa (qa (qa (qa (qa (qa (qa q0))))))))))))))))))))) results73 z1 (fun w1 hw1 => ?_)
    exact ⟨none, 0, [], (rq (((hF.neg hq2).neg hq22).neg hq38)), (hw1.fresh_out.sub Nr), (ro (((hF.neg hq2).neg hq22).neg hq38)), (by rw [(((hF.neg hq2).neg hq22).neg hq38).eq]; first | omega | (simp only [List.length_append, List.length_cons, List.length_nil]; omega) | (simp; omega) | (simp; done))⟩
   refine cK ?_
   refine Ek (vs := [(Value.agg [(vi 9), (vt ([108, 105, 115, 116] : Ap)), (vi 1)].toArray)]) hl3 (qa (qa (qa (qa (qa (qa (qa (qa (qa (qa (qa (qa (qa (qa (qa (qa (qa (qa q0)))))))))))))))))) Eo ?_
   refine Cs ?_
   refine Ah Ag z7 (k := fun r120 hr120 => ?_)
   refine Mo ?_
   refine Ah Ag Zb (k := fun r121 hr121 => ?_)
   refine Az ([9] : List Int) (List.nil_append _) Fo underlying22 Bh Bi.nil (List.Perm.refl _) (Bp.lit (xs := ([9] : List Int)) Bh) ⟨by first | omega | (simp only [List.length_append, List.length_cons, List.length_nil]; omega) | (simp; omega) | (simp; done), by first | omega | (simp only [List.length_append, List.length_cons, List.length_nil]; omega) | (simp; omega) | (simp; done)⟩ (n := 0) (m := 1) (k := fun ax22 cx22 Bx22 hox22 => ?_)
   refine Mp ?_
   refine bQ ?_
   refine lF ?_
   refine Ah Ag z7 (k := fun r122 hr122 => ?_)
   refine Gt ?_
   refine Ah Ag Jp (k := fun r123 hr123 => ?_)
   refine Gs ?_
   refine Ao 12 rfl (fun hq39 => ?_) (fun hq39 => ?_)
   rotate_left
   ·exact absurd hq38 hq39
   refine cK ?_
   refine M2 ?_
   refine Ah Ag z7 (k := fun r124 hr124 => ?_)
   refine Mo ?_
   refine Ah Ag Zb (k := fun r125 hr125 => ?_)
   refine Az (([9] : List Int) ++ ([10] : List Int)) rfl Fo underlying22 Bh hox22 (qb (qb (qb (qb (qb q0))))) (Bp.lit (xs := ([10] : List Int)) Bh) ⟨by first | omega | (simp only [List.length_append, List.length_cons, List.length_nil]; omega) | (simp; omega) | (simp; done), by first | omega | (simp only [List.length_append, List.length_cons, List.length_nil]; omega) | (simp; omega) | (simp; done)⟩ (n := ([9] : List Int).length) (m := 1) (k := fun ax23 cx23 Bx23 hox23 => ?_)
   have hal23 : (([9] : List Int) ++ ([10] : List Int)).length = ([9] : List Int).length + 1 := by first | rfl | exact List.length_append | simp
   refine Mp ?_
   refine bQ ?_
   refine Vx ?_
   refine P6 ?_
   refine Xb ?_
   refine lQ ?_
   refine Z6 ?_
   refine Du [rD3] (qa (qc (qa (qa (qa (qa (qa (qa (qa (qa (qa (qa (qa (qa (qa (qa (qa (qa (qa (qa (qa (qa (qa (qa (qa (qa q0)))))))))))))))))))))))))) results73 z1 (fun w1 hw1 => ?_)
   exact ⟨ax23, cx23, Bx23, (rq (((hF.neg hq2).neg hq22).pos hq38)), (Ba (L := Bx23) (hw1.perm (qb q0)) rfl.symm), (by rw [(((hF.neg hq2).neg hq22).pos hq38).eq]; exact hox23), (by rw [(((hF.neg hq2).neg hq22).pos hq38).eq]; first | omega | (simp only [List.length_append, List.length_cons, List.length_nil]; omega) | (simp; omega) | (simp; done))⟩
  refine cK ?_
  refine Ek (vs := [(Value.agg [(vi 2), (vt ([115, 117, 115, 112, 101, 110, 100] : Ap)), (vi 2)].toArray)]) hl3 (qa (qa (qa (qa q0)))) Eo ?_
  refine Cs ?_
  refine Ah Ag z7 (k := fun r76 hr76 => ?_)
  refine Mo ?_
  refine Ah Ag Zb (k := fun r77 hr77 => ?_)
  refine Az ([2] : List Int) (List.nil_append _) Fo underlying22 Bh Bi.nil (List.Perm.refl _) (Bp.lit (xs := ([2] : List Int)) Bh) ⟨by first | omega | (simp only [List.length_append, List.length_cons, List.length_nil]; omega) | (simp; omega) | (simp; done), by first | omega | (simp only [List.length_append, List.length_cons, List.length_nil]; omega) | (simp; omega) | (simp; done)⟩ (n := 0) (m := 1) (k := fun ax16 cx16 Bx16 hox16 => ?_)
  refine Mp ?_
  refine M3 ?_
  refine Ah Ag z7 (k := fun r78 hr78 => ?_)
  refine Gt ?_
  refine Ah Ag Jp (k := fun r79 hr79 => ?_)
  refine Gs ?_
  refine Ao 12 rfl (fun hq23 => ?_) (fun hq23 => ?_)
  rotate_left
  ·exact absurd hq22 hq23
  refine cK ?_
  refine Ek (vs := [(Value.agg [(vi 3), (vt ([114, 101, 115, 117, 109, 101] : Ap)), (vi 2)].toArray)]) hl3 (qa (qa q0)) Eo ?_
  refine Cs ?_
  refine Ah Ag z7 (k := fun r80 hr80 => ?_)
  refine Mo ?_
  refine Ah Ag Zb (k := fun r81 hr81 => ?_)
  refine Az (([2] : List Int) ++ ([3] : List Int)) rfl Fo underlying22 Bh hox16 (qb (qb (qb (qb (qb q0))))) (Bp.lit (xs := ([3] : List Int)) Bh) ⟨by first | omega | (simp only [List.length_append, List.length_cons, List.length_nil]; omega) | (simp; omega) | (simp; done), by first | omega | (simp only [List.length_append, List.length_cons, List.length_nil]; omega) | (simp; omega) | (simp; done)⟩ (n := ([2] : List Int).length) (m := 1) (k := fun ax17 cx17 Bx17 hox17 => ?_)
  have hal17 : (([2] : List Int) ++ ([3] : List Int)).length = ([2] : List Int).length + 1 := by first | rfl | exact List.length_append | simp
  refine Mp ?_
  refine M4 ?_
  refine Ah Ag z7 (k := fun r82 hr82 => ?_)
  refine Gt ?_
  refine Ah Ag Jp (k := fun r83 hr83 => ?_)
  refine Gs ?_
  refine Ao 12 rfl (fun hq24 => ?_) (fun hq24 => ?_)
  rotate_left
  ·exact absurd hq22 hq24
  refine cK ?_
  refine Ek (vs := [(Value.agg [(vi 4), (vt ([100, 114, 97, 105, 110] : Ap)), (vi 2)].toArray)]) hl3 (qa (qa q0)) Eo ?_
  refine Cs ?_
  refine Ah Ag z7 (k := fun r84 hr84 => ?_)
  refine Mo ?_
  refine Ah Ag Zb (k := fun r85 hr85 => ?_)
  refine Az ((([2] : List Int) ++ ([3] : List Int)) ++ ([4] : List Int)) rfl Fo underlying22 Bh hox17 (qb (qb (qb (qb (qb q0))))) (Bp.lit (xs := ([4] : List Int)) Bh) ⟨by first | omega | (simp only [List.length_append, List.length_cons, List.length_nil]; omega) | (simp; omega) | (simp; done), by first | omega | (simp only [List.length_append, List.length_cons, List.length_nil]; omega) | (simp; omega) | (simp; done)⟩ (n := (([2] : List Int) ++ ([3] : List Int)).length) (m := 1) (k := fun ax18 cx18 Bx18 hox18 => ?_)
  have hal18 : ((([2] : List Int) ++ ([3] : List Int)) ++ ([4] : List Int)).length = (([2] : List Int) ++ ([3] : List Int)).length + 1 := by first | rfl | exact List.length_append | simp
  refine Mp ?_
  refine M5 ?_
  refine Ah Ag z7 (k := fun r86 hr86 => ?_)
  refine Gt ?_
  refine Ah Ag Jp (k := fun r87 hr87 => ?_)
  refine Gs ?_
  refine Ao 12 rfl (fun hq25 => ?_) (fun hq25 => ?_)
  ·exact absurd hq25 hq2
  refine Uv ?_
  refine M6 ?_
  refine Ah Ag z7 (k := fun r88 hr88 => ?_)
  refine Gt ?_
  refine Ah Ag Jp (k := fun r89 hr89 => ?_)
  refine Gs ?_
  refine Ao 12 rfl (fun hq26 => ?_) (fun hq26 => ?_)
  ·exact absurd hq26 hq2
  refine Uv ?_
  refine M7 ?_
  refine Ah Ag z7 (k := fun r90 hr90 => ?_)
  refine Gt ?_
  refine Ah Ag Jp (k := fun r91 hr91 => ?_)
  refine Gs ?_
  refine Ao 12 rfl (fun hq27 => ?_) (fun hq27 => ?_)
  ·exact absurd hq27 hq2
  refine Uv ?_
  refine M8 ?_
  refine Ah Ag z7 (k := fun r92 hr92 => ?_)
  refine Gt ?_
  refine Ah Ag Jp (k := fun r93 hr93 => ?_)
  refine Gs ?_
  refine Ao 12 rfl (fun hq28 => ?_) (fun hq28 => ?_)
  rotate_left
  ·exact absurd hq22 hq28
  refine cK ?_
  refine Ek (vs := [(Value.agg [(vi 8), (vt ([107, 105, 108, 108] : Ap)), (vi 2)].toArray)]) hl3 (qa (qa (qa (qa (qa (qa (qa (qa q0)))))))) Eo ?_
  refine Cs ?_
  refine Ah Ag z7 (k := fun r94 hr94 => ?_)
  refine Mo ?_
  refine Ah Ag Zb (k := fun r95 hr95 => ?_)
  refine Az (((([2] : List Int) ++ ([3] : List Int)) ++ ([4] : List Int)) ++ ([8] : List Int)) rfl Fo underlying22 Bh hox18 (qb (qb (qb (qb (qb (qb (qb (qb (qb (qb (qb q0))))))))))) (Bp.lit (xs := ([8] : List Int)) Bh) ⟨by first | omega | (simp only [List.length_append, List.length_cons, List.length_nil]; omega) | (simp; omega) | (simp; done), by first | omega | (simp only [List.length_append, List.length_cons, List.length_nil]; omega) | (simp; omega) | (simp; done)⟩ (n := ((([2] : List Int) ++ ([3] : List Int)) ++ ([4] : List Int)).length) (m := 1) (k := fun ax19 cx19 Bx19 hox19 => ?_)
  have hal19 : (((([2] : List Int) ++ ([3] : List Int)) ++ ([4] : List Int)) ++ ([8] : List Int)).length = ((([2] : List Int) ++ ([3] : List Int)) ++ ([4] : List Int)).length + 1 := by first | rfl | exact List.length_append | simp
  refine Mp ?_
  refine M9 ?_
  refine Ah Ag z7 (k := fun r96 hr96 => ?_)
  refine Gt ?_
  refine Ah Ag Jp (k := fun r97 hr97 => ?_)
  refine Gs ?_
  refine Ao 12 rfl (fun hq29 => ?_) (fun hq29 => ?_)
  rotate_left
  ·refine Ae 4 rfl ?_
   refine Qh ?_
   refine bQ ?_
   refine lF ?_
   refine Ah Ag z7 (k := fun r104 hr104 => ?_)
   refine Gt ?_
   refine Ah Ag Jp (k := fun r105 hr105 => ?_)
   refine Gs ?_
   refine Ao 12 rfl (fun hq31 => ?_) (fun hq31 => ?_)
   ·exact absurd hq31 hq29
   refine Uv ?_
   refine bQ ?_
   refine Vx ?_
   refine Pl ?_
   refine Kb (.inr rfl) results138 (qa (qa (qa (qa q0)))) ?_
   refine Xb ?_
   refine lQ ?_
   refine Z6 ?_
   refine Du [rD3] (qa (qa (qa (qa (qa (qc (qa (qa (qa (qa (qa (qa (qa (qa (qa (qa (qa (qa (qa (qa (qa (qa (qa (qa (qa (qa (qa (qa (qa (qa q0)))))))))))))))))))))))))))))) results73 z1 (fun w1 hw1 => ?_)
   exact ⟨ax19, cx19, Bx19, (rq (((hF.neg hq2).pos hq22).neg hq29)), (Ba (L := Bx19) (hw1.perm (qb (qb (qb (qb (qb q0)))))) rfl.symm), (by rw [(((hF.neg hq2).pos hq22).neg hq29).eq]; exact hox19), (by rw [(((hF.neg hq2).pos hq22).neg hq29).eq]; first | omega | (simp only [List.length_append, List.length_cons, List.length_nil]; omega) | (simp; omega) | (simp; done))⟩
  refine cK ?_
  refine Ek (vs := [(Value.agg [(vi 9), (vt ([108, 105, 115, 116] : Ap)), (vi 1)].toArray)]) hl3 (qa (qa q0)) Eo ?_
  refine Cs ?_
  refine Ah Ag z7 (k := fun r98 hr98 => ?_)
  refine Mo ?_
  refine Ah Ag Zb (k := fun r99 hr99 => ?_)
  refine Az ((((([2] : List Int) ++ ([3] : List Int)) ++ ([4] : List Int)) ++ ([8] : List Int)) ++ ([9] : List Int)) rfl Fo underlying22 Bh hox19 (qb (qb (qb (qb (qb q0))))) (Bp.lit (xs := ([9] : List Int)) Bh) ⟨by first | omega | (simp only [List.length_append, List.length_cons, List.length_nil]; omega) | (simp; omega) | (simp; done), by first | omega | (simp only [List.length_append, List.length_cons, List.length_nil]; omega) | (simp; omega) | (simp; done)⟩ (n := (((([2] : List Int) ++ ([3] : List Int)) ++ ([4] : List Int)) ++ ([8] : List Int)).length) (m := 1) (k := fun ax20 cx20 Bx20 hox20 => ?_)
  have hal20 : ((((([2] : List Int) ++ ([3] : List Int)) ++ ([4] : List Int)) ++ ([8] : List Int)) ++ ([9] : List Int)).length = (((([2] : List Int) ++ ([3] : List Int)) ++ ([4] : List Int)) ++ ([8] : List Int)).length + 1 := by first | rfl | exact List.length_append | simp
  refine Mp ?_
  refine bQ ?_
  refine lF ?_
  refine Ah Ag z7 (k := fun r100 hr100 => ?_)
  refine Gt ?_
  refine Ah Ag Jp (k := fun r101 hr101 => ?_)
  refine Gs ?_
  refine Ao 12 rfl (fun hq30 => ?_) (fun hq30 => ?_)
  rotate_left
  ·exact absurd hq29 hq30
  refine cK ?_
  refine M2 ?_
  refine Ah Ag z7 (k := fun r102 hr102 => ?_)
  refine Mo ?_
  refine Ah Ag Zb (k := fun r103 hr103 => ?_)
  refine Az (((((([2] : List Int) ++ ([3] : List Int)) ++ ([4] : List Int)) ++ ([8] : List Int)) ++ ([9] : List Int)) ++ ([10] : List Int)) rfl Fo underlying22 Bh hox20 (qb (qb (qb (qb (qb q0))))) (Bp.lit (xs := ([10] : List Int)) Bh) ⟨by first | omega | (simp only [List.length_append, List.length_cons, List.length_nil]; omega) | (simp; omega) | (simp; done), by first | omega | (simp only [List.length_append, List.length_cons, List.length_nil]; omega) | (simp; omega) | (simp; done)⟩ (n := ((((([2] : List Int) ++ ([3] : List Int)) ++ ([4] : List Int)) ++ ([8] : List Int)) ++ ([9] : List Int)).length) (m := 1) (k := fun ax21 cx21 Bx21 hox21 => ?_)
  have hal21 : (((((([2] : List Int) ++ ([3] : List Int)) ++ ([4] : List Int)) ++ ([8] : List Int)) ++ ([9] : List Int)) ++ ([10] : List Int)).length = ((((([2] : List Int) ++ ([3] : List Int)) ++ ([4] : List Int)) ++ ([8] : List Int)) ++ ([9] : List Int)).length + 1 := by first | rfl | exact List.length_append | simp
  refine Mp ?_
  refine bQ ?_
  refine Vx ?_
  refine P6 ?_
  refine Xb ?_
  refine lQ ?_
  refine Z6 ?_
  refine Du [rD3] (qa (qc (qa (qa (qa (qa (qa (qa (qa (qa (qa (qa (qa (qa (qa (qa (qa (qa (qa (qa (qa (qa (qa (qa (qa (qa (qa (qa (qa (qa (qa (qa (qa (qa q0)))))))))))))))))))))))))))))))))) results73 z1 (fun w1 hw1 => ?_)
  exact ⟨ax21, cx21, Bx21, (rq (((hF.neg hq2).pos hq22).pos hq29)), (Ba (L := Bx21) (hw1.perm (qb q0)) rfl.symm), (by rw [(((hF.neg hq2).pos hq22).pos hq29).eq]; exact hox21), (by rw [(((hF.neg hq2).pos hq22).pos hq29).eq]; first | omega | (simp only [List.length_append, List.length_cons, List.length_nil]; omega) | (simp; omega) | (simp; done))⟩
 refine cK ?_
 refine Ek (vs := [(Value.agg [(vi 1), (vt ([99, 114, 101, 97, 116, 101] : Ap)), (vi 4)].toArray)]) hl3 (qa (qa q0)) Eo ?_
 refine Cs ?_
 refine Ah Ag z7 (k := fun r6 hr6 => ?_)
 refine Mo ?_
 refine Ah Ag Zb (k := fun r7 hr7 => ?_)
 refine Az ([1] : List Int) (List.nil_append _) Fo underlying22 Bh Bi.nil (List.Perm.refl _) (Bp.lit (xs := ([1] : List Int)) Bh) ⟨by first | omega | (simp only [List.length_append, List.length_cons, List.length_nil]; omega) | (simp; omega) | (simp; done), by first | omega | (simp only [List.length_append, List.length_cons, List.length_nil]; omega) | (simp; omega) | (simp; done)⟩ (n := 0) (m := 1) (k := fun ax1 cx1 Bx1 hox1 => ?_)
 refine Mp ?_
 refine fO ?_
 refine Af (Kc (m := 1) (n := 3) runUnderlying193 sizeOf156 isAgg156) (k := ?_)
 refine Ah Ag z7 (k := fun r8 hr8 => ?_)
 refine Gt ?_
 refine Ah Ag Jp (k := fun r9 hr9 => ?_)
 refine Gs ?_
 refine Ao 12 rfl (fun hq3 => ?_) (fun hq3 => ?_)
 rotate_left
 ·refine Ae 4 rfl ?_
  refine Qh ?_
  refine M3 ?_
  refine Ah Ag z7 (k := fun r46 hr46 => ?_)
  refine Gt ?_
  refine Ah Ag Jp (k := fun r47 hr47 => ?_)
  refine Gs ?_
  refine Ao 12 rfl (fun hq13 => ?_) (fun hq13 => ?_)
  ·exact absurd hq13 hq3
  refine Uv ?_
  refine M4 ?_
  refine Ah Ag z7 (k := fun r48 hr48 => ?_)
  refine Gt ?_
  refine Ah Ag Jp (k := fun r49 hr49 => ?_)
  refine Gs ?_
  refine Ao 12 rfl (fun hq14 => ?_) (fun hq14 => ?_)
  ·exact absurd hq14 hq3
  refine Uv ?_
  refine M5 ?_
  refine Ah Ag z7 (k := fun r50 hr50 => ?_)
  refine Gt ?_
  refine Ah Ag Jp (k := fun r51 hr51 => ?_)
  refine Gs ?_
  refine Ao 12 rfl (fun hq15 => ?_) (fun hq15 => ?_)
  rotate_left
  ·exact absurd hq2 hq15
  refine cK ?_
  refine Ek (vs := [(Value.agg [(vi 5), (vt ([100, 101, 108, 101, 116, 101] : Ap)), (vi 4)].toArray)]) hl3 (qa (qa (qa (qa (qa (qa (qa (qa q0)))))))) Eo ?_
  refine Cs ?_
  refine Ah Ag z7 (k := fun r52 hr52 => ?_)
  refine Mo ?_
  refine Ah Ag Zb (k := fun r53 hr53 => ?_)
  refine Az (([1] : List Int) ++ ([5] : List Int)) rfl Fo underlying22 Bh hox1 (qb (qb (qb (qb (qb (qb (qb (qb (qb (qb (qb q0))))))))))) (Bp.lit (xs := ([5] : List Int)) Bh) ⟨by first | omega | (simp only [List.length_append, List.length_cons, List.length_nil]; omega) | (simp; omega) | (simp; done), by first | omega | (simp only [List.length_append, List.length_cons, List.length_nil]; omega) | (simp; omega) | (simp; done)⟩ (n := ([1] : List Int).length) (m := 1) (k := fun ax11 cx11 Bx11 hox11 => ?_)
  have hal11 : (([1] : List Int) ++ ([5] : List Int)).length = ([1] : List Int).length + 1 := by first | rfl | exact List.length_append | simp
  refine Mp ?_
  refine M6 ?_
  refine Ah Ag z7 (k := fun r54 hr54 => ?_)
  refine Gt ?_
  refine Ah Ag Jp (k := fun r55 hr55 => ?_)
  refine Gs ?_
  refine Ao 12 rfl (fun hq16 => ?_) (fun hq16 => ?_)
  rotate_left
  ·exact absurd hq2 hq16
  refine cK ?_
  refine Ek (vs := [(Value.agg [(vi 6), (vt ([114, 111, 116, 97, 116, 101] : Ap)), (vi 4)].toArray)]) hl3 (qa (qa q0)) Eo ?_
  refine Cs ?_
  refine Ah Ag z7 (k := fun r56 hr56 => ?_)
  refine Mo ?_
  refine Ah Ag Zb (k := fun r57 hr57 => ?_)
  refine Az ((([1] : List Int) ++ ([5] : List Int)) ++ ([6] : List Int)) rfl Fo underlying22 Bh hox11 (qb (qb (qb (qb (qb q0))))) (Bp.lit (xs := ([6] : List Int)) Bh) ⟨by first | omega | (simp only [List.length_append, List.length_cons, List.length_nil]; omega) | (simp; omega) | (simp; done), by first | omega | (simp only [List.length_append, List.length_cons, List.length_nil]; omega) | (simp; omega) | (simp; done)⟩ (n := (([1] : List Int) ++ ([5] : List Int)).length) (m := 1) (k := fun ax12 cx12 Bx12 hox12 => ?_)
  have hal12 : ((([1] : List Int) ++ ([5] : List Int)) ++ ([6] : List Int)).length = (([1] : List Int) ++ ([5] : List Int)).length + 1 := by first | rfl | exact List.length_append | simp
  refine Mp ?_
  refine M7 ?_
  refine Ah Ag z7 (k := fun r58 hr58 => ?_)
  refine Gt ?_
  refine Ah Ag Jp (k := fun r59 hr59 => ?_)
  refine Gs ?_
  refine Ao 12 rfl (fun hq17 => ?_) (fun hq17 => ?_)
  rotate_left
  ·exact absurd hq2 hq17
  refine cK ?_
  refine Ek (vs := [(Value.agg [(vi 7), (vt ([97, 99, 108] : Ap)), (vi 4)].toArray)]) hl3 (qa (qa q0)) Eo ?_
  refine Cs ?_
  refine Ah Ag z7 (k := fun r60 hr60 => ?_)
  refine Mo ?_
  refine Ah Ag Zb (k := fun r61 hr61 => ?_)
  refine Az (((([1] : List Int) ++ ([5] : List Int)) ++ ([6] : List Int)) ++ ([7] : List Int)) rfl Fo underlying22 Bh hox12 (qb (qb (qb (qb (qb q0))))) (Bp.lit (xs := ([7] : List Int)) Bh) ⟨by first | omega | (simp only [List.length_append, List.length_cons, List.length_nil]; omega) | (simp; omega) | (simp; done), by first | omega | (simp only [List.length_append, List.length_cons, List.length_nil]; omega) | (simp; omega) | (simp; done)⟩ (n := ((([1] : List Int) ++ ([5] : List Int)) ++ ([6] : List Int)).length) (m := 1) (k := fun ax13 cx13 Bx13 hox13 => ?_)
  have hal13 : (((([1] : List Int) ++ ([5] : List Int)) ++ ([6] : List Int)) ++ ([7] : List Int)).length = ((([1] : List Int) ++ ([5] : List Int)) ++ ([6] : List Int)).length + 1 := by first | rfl | exact List.length_append | simp
  refine Mp ?_
  refine M8 ?_
  refine Ah Ag z7 (k := fun r62 hr62 => ?_)
  refine Gt ?_
  refine Ah Ag Jp (k := fun r63 hr63 => ?_)
  refine Gs ?_
  refine Ao 12 rfl (fun hq18 => ?_) (fun hq18 => ?_)
  ·exact absurd hq18 hq3
  refine Uv ?_
  refine M9 ?_
  refine Ah Ag z7 (k := fun r64 hr64 => ?_)
  refine Gt ?_
  refine Ah Ag Jp (k := fun r65 hr65 => ?_)
  refine Gs ?_
  refine Ao 12 rfl (fun hq19 => ?_) (fun hq19 => ?_)
  rotate_left
  ·refine Ae 4 rfl ?_
   refine Qh ?_
   refine bQ ?_
   refine lF ?_
   refine Ah Ag z7 (k := fun r72 hr72 => ?_)
   refine Gt ?_
   refine Ah Ag Jp (k := fun r73 hr73 => ?_)
   refine Gs ?_
   refine Ao 12 rfl (fun hq21 => ?_) (fun hq21 => ?_)
   ·exact absurd hq21 hq19
   refine Uv ?_
   refine bQ ?_
   refine Vx ?_
   refine Pl ?_
   refine Kb (.inr rfl) results138 (qa (qa (qa (qa (qa (qa q0)))))) ?_
   refine Xb ?_
   refine lQ ?_
   refine Z6 ?_
   refine Du [rD3] (qa (qa (qa (qa (qa (qa (qa (qc (qa (qa (qa (qa (qa (qa (qa (qa (qa (qa (qa (qa (qa (qa (qa (qa (qa (qa (qa (qa (qa (qa q0)))))))))))))))))))))))))))))) results73 z1 (fun w1 hw1 => ?_)
   exact ⟨ax13, cx13, Bx13, (rq (((hF.pos hq2).neg hq3).neg hq19)), (Ba (L := Bx13) (hw1.perm (qb (qb (qb (qb (qb (qb (qb q0)))))))) rfl.symm), (by rw [(((hF.pos hq2).neg hq3).neg hq19).eq]; exact hox13), (by rw [(((hF.pos hq2).neg hq3).neg hq19).eq]; first | omega | (simp only [List.length_append, List.length_cons, List.length_nil]; omega) | (simp; omega) | (simp; done))⟩
  refine cK ?_
  refine Ek (vs := [(Value.agg [(vi 9), (vt ([108, 105, 115, 116] : Ap)), (vi 1)].toArray)]) hl3 (qa (qa (qa (qa q0)))) Eo ?_
  refine Cs ?_
  refine Ah Ag z7 (k := fun r66 hr66 => ?_)
  refine Mo ?_
  refine Ah Ag Zb (k := fun r67 hr67 => ?_)
  refine Az ((((([1] : List Int) ++ ([5] : List Int)) ++ ([6] : List Int)) ++ ([7] : List Int)) ++ ([9] : List Int)) rfl Fo underlying22 Bh hox13 (qb (qb (qb (qb (qb (qb (qb q0))))))) (Bp.lit (xs := ([9] : List Int)) Bh) ⟨by first | omega | (simp only [List.length_append, List.length_cons, List.length_nil]; omega) | (simp; omega) | (simp; done), by first | omega | (simp only [List.length_append, List.length_cons, List.length_nil]; omega) | (simp; omega) | (simp; done)⟩ (n := (((([1] : List Int) ++ ([5] : List Int)) ++ ([6] : List Int)) ++ ([7] : List Int)).length) (m := 1) (k := fun ax14 cx14 Bx14 hox14 => ?_)
  have hal14 : ((((([1] : List Int) ++ ([5] : List Int)) ++ ([6] : List Int)) ++ ([7] : List Int)) ++ ([9] : List Int)).length = (((([1] : List Int) ++ ([5] : List Int)) ++ ([6] : List Int)) ++ ([7] : List Int)).length + 1 := by first | rfl | exact List.length_append | simp
  refine Mp ?_
  refine bQ ?_
  refine lF ?_
  refine Ah Ag z7 (k := fun r68 hr68 => ?_)
  refine Gt ?_
  refine Ah Ag Jp (k := fun r69 hr69 => ?_)
  refine Gs ?_
  refine Ao 12 rfl (fun hq20 => ?_) (fun hq20 => ?_)
  rotate_left
  ·exact absurd hq19 hq20
  refine cK ?_
  refine M2 ?_
  refine Ah Ag z7 (k := fun r70 hr70 => ?_)
  refine Mo ?_
  refine Ah Ag Zb (k := fun r71 hr71 => ?_)
  refine Az (((((([1] : List Int) ++ ([5] : List Int)) ++ ([6] : List Int)) ++ ([7] : List Int)) ++ ([9] : List Int)) ++ ([10] : List Int)) rfl Fo underlying22 Bh hox14 (qb (qb (qb (qb (qb q0))))) (Bp.lit (xs := ([10] : List Int)) Bh) ⟨by first | omega | (simp only [List.length_append, List.length_cons, List.length_nil]; omega) | (simp; omega) | (simp; done), by first | omega | (simp only [List.length_append, List.length_cons, List.length_nil]; omega) | (simp; omega) | (simp; done)⟩ (n := ((((([1] : List Int) ++ ([5] : List Int)) ++ ([6] : List Int)) ++ ([7] : List Int)) ++ ([9] : List Int)).length) (m := 1) (k := fun ax15 cx15 Bx15 hox15 => ?_)
  have hal15 : (((((([1] : List Int) ++ ([5] : List Int)) ++ ([6] : List Int)) ++ ([7] : List Int)) ++ ([9] : List Int)) ++ ([10] : List Int)).length = ((((([1] : List Int) ++ ([5] : List Int)) ++ ([6] : List Int)) ++ ([7] : List Int)) ++ ([9] : List Int)).length + 1 := by first | rfl | exact List.length_append | simp
  refine Mp ?_
  refine bQ ?_
  refine Vx ?_
  refine P6 ?_
  refine Xb ?_
  refine lQ ?_
  refine Z6 ?_
  refine Du [rD3] (qa (qc (qa (qa (qa (qa (qa (qa (qa (qa (qa (qa (qa (qa (qa (qa (qa (qa (qa (qa (qa (qa (qa (qa (qa (qa (qa (qa (qa (qa (qa (qa (qa (qa q0)))))))))))))))))))))))))))))))))) results73 z1 (fun w1 hw1 => ?_)
  exact ⟨ax15, cx15, Bx15, (rq (((hF.pos hq2).neg hq3).pos hq19)), (Ba (L := Bx15) (hw1.perm (qb q0)) rfl.symm), (by rw [(((hF.pos hq2).neg hq3).pos hq19).eq]; exact hox15), (by rw [(((hF.pos hq2).neg hq3).pos hq19).eq]; first | omega | (simp only [List.length_append, List.length_cons, List.length_nil]; omega) | (simp; omega) | (simp; done))⟩
 refine cK ?_
 refine Ek (vs := [(Value.agg [(vi 2), (vt ([115, 117, 115, 112, 101, 110, 100] : Ap)), (vi 2)].toArray)]) hl3 (qa (qa q0)) Eo ?_
 refine Cs ?_
 refine Ah Ag z7 (k := fun r10 hr10 => ?_)
 refine Mo ?_
 refine Ah Ag Zb (k := fun r11 hr11 => ?_)
 refine Az (([1] : List Int) ++ ([2] : List Int)) rfl Fo underlying22 Bh hox1 (qb (qb (qb (qb (qb q0))))) (Bp.lit (xs := ([2] : List Int)) Bh) ⟨by first | omega | (simp only [List.length_append, List.length_cons, List.length_nil]; omega) | (simp; omega) | (simp; done), by first | omega | (simp only [List.length_append, List.length_cons, List.length_nil]; omega) | (simp; omega) | (simp; done)⟩ (n := ([1] : List Int).length) (m := 1) (k := fun ax2 cx2 Bx2 hox2 => ?_)
 have hal2 : (([1] : List Int) ++ ([2] : List Int)).length = ([1] : List Int).length + 1 := by first | rfl | exact List.length_append | simp
 refine Mp ?_
 refine M3 ?_
 refine Ah Ag z7 (k := fun r12 hr12 => ?_)
 refine Gt ?_
 refine Ah Ag Jp (k := fun r13 hr13 => ?_)
 refine Gs ?_
 refine Ao 12 rfl (fun hq4 => ?_) (fun hq4 => ?_)
 rotate_left
 ·exact absurd hq3 hq4
 refine cK ?_
 refine Ek (vs := [(Value.agg [(vi 3), (vt ([114, 101, 115, 117, 109, 101] : Ap)), (vi 2)].toArray)]) hl3 (qa (qa q0)) Eo ?_
 refine Cs ?_
 refine Ah Ag z7 (k := fun r14 hr14 => ?_)
 refine Mo ?_
 refine Ah Ag Zb (k := fun r15 hr15 => ?_)
 refine Az ((([1] : List Int) ++ ([2] : List Int)) ++ ([3] : List Int)) rfl Fo underlying22 Bh hox2 (qb (qb (qb (qb (qb q0))))) (Bp.lit (xs := ([3] : List Int)) Bh) ⟨by first | omega | (simp only [List.length_append, List.length_cons, List.length_nil]; omega) | (simp; omega) | (simp; done), by first | omega | (simp only [List.length_append, List.length_cons, List.length_nil]; omega) | (simp; omega) | (simp; done)⟩ (n := (([1] : List Int) ++ ([2] : List Int)).length) (m := 1) (k := fun ax3 cx3 Bx3 hox3 => ?_)
 have hal3 : ((([1] : List Int) ++ ([2] : List Int)) ++ ([3] : List Int)).length = (([1] : List Int) ++ ([2] : List Int)).length + 1 := by first | rfl | exact List.length_append | simp
 refine Mp ?_
 refine M4 ?_
 refine Ah Ag z7 (k := fun r16 hr16 => ?_)
 refine Gt ?_
 refine Ah Ag Jp (k := fun r17 hr17 => ?_)
 refine Gs ?_
 refine Ao 12 rfl (fun hq5 => ?_) (fun hq5 => ?_)
 rotate_left
 ·exact absurd hq3 hq5
 refine cK ?_
 refine Ek (vs := [(Value.agg [(vi 4), (vt ([100, 114, 97, 105, 110] : Ap)), (vi 2)].toArray)]) hl3 (qa (qa q0)) Eo ?_
 refine Cs ?_
 refine Ah Ag z7 (k := fun r18 hr18 => ?_)
 refine Mo ?_
 refine Ah Ag Zb (k := fun r19 hr19 => ?_)
 refine Az (((([1] : List Int) ++ ([2] : List Int)) ++ ([3] : List Int)) ++ ([4] : List Int)) rfl Fo underlying22 Bh hox3 (qb (qb (qb (qb (qb q0))))) (Bp.lit (xs := ([4] : List Int)) Bh) ⟨by first | omega | (simp only [List.length_append, List.length_cons, List.length_nil]; omega) | (simp; omega) | (simp; done), by first | omega | (simp only [List.length_append, List.length_cons, List.length_nil]; omega) | (simp; omega) | (simp; done)⟩ (n := ((([1] : List Int) ++ ([2] : List Int)) ++ ([3] : List Int)).length) (m := 1) (k := fun ax4 cx4 Bx4 hox4 => ?_)
 have hal4 : (((([1] : List Int) ++ ([2] : List Int)) ++ ([3] : List Int)) ++ ([4] : List Int)).length = ((([1] : List Int) ++ ([2] : List Int)) ++ ([3] : List Int)).length + 1 := by first | rfl | exact List.length_append | simp
 refine Mp ?_
 refine M5 ?_
 refine Ah Ag z7 (k := fun r20 hr20 => ?_)
 refine Gt ?_
 refine Ah Ag Jp (k := fun r21 hr21 => ?_)
 refine Gs ?_
 refine Ao 12 rfl (fun hq6 => ?_) (fun hq6 => ?_)
 rotate_left
 ·exact absurd hq2 hq6
 refine cK ?_
 refine Ek (vs := [(Value.agg [(vi 5), (vt ([100, 101, 108, 101, 116, 101] : Ap)), (vi 4)].toArray)]) hl3 (qa (qa q0)) Eo ?_
 refine Cs ?_
 refine Ah Ag z7 (k := fun r22 hr22 => ?_)
 refine Mo ?_
 refine Ah Ag Zb (k := fun r23 hr23 => ?_)
 refine Az ((((([1] : List Int) ++ ([2] : List Int)) ++ ([3] : List Int)) ++ ([4] : List Int)) ++ ([5] : List Int)) rfl Fo underlying22 Bh hox4 (qb (qb (qb (qb (qb q0))))) (Bp.lit (xs := ([5] : List Int)) Bh) ⟨by first | omega | (simp only [List.length_append, List.length_cons, List.length_nil]; omega) | (simp; omega) | (simp; done), by first | omega | (simp only [List.length_append, List.length_cons, List.length_nil]; omega) | (simp; omega) | (simp; done)⟩ (n := (((([1] : List Int) ++ ([2] : List Int)) ++ ([3] : List Int)) ++ ([4] : List Int)).length) (m := 1) (k := fun ax5 cx5 Bx5 hox5 => ?_)
 have hal5 : ((((([1] : List Int) ++ ([2] : List Int)) ++ ([3] : List Int)) ++ ([4] : List Int)) ++ ([5] : List Int)).length = (((([1] : List Int) ++ ([2] : List Int)) ++ ([3] : List Int)) ++ ([4] : List Int)).length + 1 := by first | rfl | exact List.length_append | simp
 refine Mp ?_
 refine M6 ?_
 refine Ah Ag z7 (k := fun r24 hr24 => ?_)
 refine Gt ?_
 refine Ah Ag Jp (k := fun r25 hr25 => ?_)
 refine Gs ?_
 refine Ao 12 rfl (fun hq7 => ?_) (fun hq7 => ?_)
 rotate_left
 ·exact absurd hq2 hq7
 refine cK ?_
 refine Ek (vs := [(Value.agg [(vi 6), (vt ([114, 111, 116, 97, 116, 101] : Ap)), (vi 4)].toArray)]) hl3 (qa (qa q0)) Eo ?_
 refine Cs ?_
 refine Ah Ag z7 (k := fun r26 hr26 => ?_)
 refine Mo ?_
 refine Ah Ag Zb (k := fun r27 hr27 => ?_)
 refine Az (((((([1] : List Int) ++ ([2] : List Int)) ++ ([3] : List Int)) ++ ([4] : List Int)) ++ ([5] : List Int)) ++ ([6] : List Int)) rfl Fo underlying22 Bh hox5 (qb (qb (qb (qb (qb q0))))) (Bp.lit (xs := ([6] : List Int)) Bh) ⟨by first | omega | (simp only [List.length_append, List.length_cons, List.length_nil]; omega) | (simp; omega) | (simp; done), by first | omega | (simp only [List.length_append, List.length_cons, List.length_nil]; omega) | (simp; omega) | (simp; done)⟩ (n := ((((([1] : List Int) ++ ([2] : List Int)) ++ ([3] : List Int)) ++ ([4] : List Int)) ++ ([5] : List Int)).length) (m := 1) (k := fun ax6 cx6 Bx6 hox6 => ?_)
 have hal6 : (((((([1] : List Int) ++ ([2] : List Int)) ++ ([3] : List Int)) ++ ([4] : List Int)) ++ ([5] : List Int)) ++ ([6] : List Int)).length = ((((([1] : List Int) ++ ([2] : List Int)) ++ ([3] : List Int)) ++ ([4] : List Int)) ++ ([5] : List Int)).length + 1 := by first | rfl | exact List.length_append | simp
 refine Mp ?_
 refine M7 ?_
 refine Ah Ag z7 (k := fun r28 hr28 => ?_)
 refine Gt ?_
 refine Ah Ag Jp (k := fun r29 hr29 => ?_)
 refine Gs ?_
 refine Ao 12 rfl (fun hq8 => ?_) (fun hq8 => ?_)
 rotate_left
 ·exact absurd hq2 hq8
 refine cK ?_
 refine Ek (vs := [(Value.agg [(vi 7), (vt ([97, 99, 108] : Ap)), (vi 4)].toArray)]) hl3 (qa (qa q0)) Eo ?_
 refine Cs ?_
 refine Ah Ag z7 (k := fun r30 hr30 => ?_)
 refine Mo ?_
 refine Ah Ag Zb (k := fun r31 hr31 => ?_)
 refine Az ((((((([1] : List Int) ++ ([2] : List Int)) ++ ([3] : List Int)) ++ ([4] : List Int)) ++ ([5] : List Int)) ++ ([6] : List Int)) ++ ([7] : List Int)) rfl Fo underlying22 Bh hox6 (qb (qb (qb (qb (qb q0))))) (Bp.lit (xs := ([7] : List Int)) Bh) ⟨by first | omega | (simp only [List.length_append, List.length_cons, List.length_nil]; omega) | (simp; omega) | (simp; done), by first | omega | (simp only [List.length_append, List.length_cons, List.length_nil]; omega) | (simp; omega) | (simp; done)⟩ (n := (((((([1] : List Int) ++ ([2] : List Int)) ++ ([3] : List Int)) ++ ([4] : List Int)) ++ ([5] : List Int)) ++ ([6] : List Int)).length) (m := 1) (k := fun ax7 cx7 Bx7 hox7 => ?_)
 have hal7 : ((((((([1] : List Int) ++ ([2] : List Int)) ++ ([3] : List Int)) ++ ([4] : List Int)) ++ ([5] : List Int)) ++ ([6] : List Int)) ++ ([7] : List Int)).length = (((((([1] : List Int) ++ ([2] : List Int)) ++ ([3] : List Int)) ++ ([4] : List Int)) ++ ([5] : List Int)) ++ ([6] : List Int)).length + 1 := by first | rfl | exact List.length_append | simp
 refine Mp ?_
 refine M8 ?_
 refine Ah Ag z7 (k := fun r32 hr32 => ?_)
 refine Gt ?_
 refine Ah Ag Jp (k := fun r33 hr33 => ?_)
 refine Gs ?_
 refine Ao 12 rfl (fun hq9 => ?_) (fun hq9 => ?_)
 rotate_left
 ·exact absurd hq3 hq9
 refine cK ?_
 refine Ek (vs := [(Value.agg [(vi 8), (vt ([107, 105, 108, 108] : Ap)), (vi 2)].toArray)]) hl3 (qa (qa q0)) Eo ?_
 refine Cs ?_
 refine Ah Ag z7 (k := fun r34 hr34 => ?_)
 refine Mo ?_
 refine Ah Ag Zb (k := fun r35 hr35 => ?_)
 refine Az (((((((([1] : List Int) ++ ([2] : List Int)) ++ ([3] : List Int)) ++ ([4] : List Int)) ++ ([5] : List Int)) ++ ([6] : List Int)) ++ ([7] : List Int)) ++ ([8] : List Int)) rfl Fo underlying22 Bh hox7 (qb (qb (qb (qb (qb q0))))) (Bp.lit (xs := ([8] : List Int)) Bh) ⟨by first | omega | (simp only [List.length_append, List.length_cons, List.length_nil]; omega) | (simp; omega) | (simp; done), by first | omega | (simp only [List.length_append, List.length_cons, List.length_nil]; omega) | (simp; omega) | (simp; done)⟩ (n := ((((((([1] : List Int) ++ ([2] : List Int)) ++ ([3] : List Int)) ++ ([4] : List Int)) ++ ([5] : List Int)) ++ ([6] : List Int)) ++ ([7] : List Int)).length) (m := 1) (k := fun ax8 cx8 Bx8 hox8 => ?_)
 have hal8 : (((((((([1] : List Int) ++ ([2] : List Int)) ++ ([3] : List Int)) ++ ([4] : List Int)) ++ ([5] : List Int)) ++ ([6] : List Int)) ++ ([7] : List Int)) ++ ([8] : List Int)).length = ((((((([1] : List Int) ++ ([2] : List Int)) ++ ([3] : List Int)) ++ ([4] : List Int)) ++ ([5] : List Int)) ++ ([6] : List Int)) ++ ([7] : List Int)).length + 1 := by first | rfl | exact List.length_append | simp
 refine Mp ?_
 refine M9 ?_
 refine Ah Ag z7 (k := fun r36 hr36 => ?_)
 refine Gt ?_
 refine Ah Ag Jp (k := fun r37 hr37 => ?_)
 refine Gs ?_
 refine Ao 12 rfl (fun hq10 => ?_) (fun hq10 => ?_)
 rotate_left
 ·refine Ae 4 rfl ?_
  refine Qh ?_
  refine bQ ?_
  refine lF ?_
  refine Ah Ag z7 (k := fun r44 hr44 => ?_)
  refine Gt ?_
  refine Ah Ag Jp (k := fun r45 hr45 => ?_)
  refine Gs ?_
  refine Ao 12 rfl (fun hq12 => ?_) (fun hq12 => ?_)
  ·exact absurd hq12 hq10
  refine Uv ?_
  refine bQ ?_
  refine Vx ?_
  refine Pl ?_
  refine Kb (.inr rfl) results138 (qa (qa (qa (qa q0)))) ?_
  refine Xb ?_
  refine lQ ?_
  refine Z6 ?_
  refine Du [rD3] (qa (qa (qa (qa (qa (qc (qa (qa (qa (qa (qa (qa (qa (qa (qa (qa (qa (qa (qa (qa (qa (qa (qa (qa (qa (qa (qa (qa (qa (qa (qa (qa (qa (qa (qa (qa (qa (qa q0)))))))))))))))))))))))))))))))))))))) results73 z1 (fun w1 hw1 => ?_)
  exact ⟨ax8, cx8, Bx8, (rq (((hF.pos hq2).pos hq3).neg hq10)), (Ba (L := Bx8) (hw1.perm (qb (qb (qb (qb (qb q0)))))) rfl.symm), (by rw [(((hF.pos hq2).pos hq3).neg hq10).eq]; exact hox8), (by rw [(((hF.pos hq2).pos hq3).neg hq10).eq]; first | omega | (simp only [List.length_append, List.length_cons, List.length_nil]; omega) | (simp; omega) | (simp; done))⟩
 refine cK ?_
 refine Ek (vs := [(Value.agg [(vi 9), (vt ([108, 105, 115, 116] : Ap)), (vi 1)].toArray)]) hl3 (qa (qa q0)) Eo ?_
 refine Cs ?_
 refine Ah Ag z7 (k := fun r38 hr38 => ?_)
 refine Mo ?_
 refine Ah Ag Zb (k := fun r39 hr39 => ?_)
 refine Az ((((((((([1] : List Int) ++ ([2] : List Int)) ++ ([3] : List Int)) ++ ([4] : List Int)) ++ ([5] : List Int)) ++ ([6] : List Int)) ++ ([7] : List Int)) ++ ([8] : List Int)) ++ ([9] : List Int)) rfl Fo underlying22 Bh hox8 (qb (qb (qb (qb (qb q0))))) (Bp.lit (xs := ([9] : List Int)) Bh) ⟨by first | omega | (simp only [List.length_append, List.length_cons, List.length_nil]; omega) | (simp; omega) | (simp; done), by first | omega | (simp only [List.length_append, List.length_cons, List.length_nil]; omega) | (simp; omega) | (simp; done)⟩ (n := (((((((([1] : List Int) ++ ([2] : List Int)) ++ ([3] : List Int)) ++ ([4] : List Int)) ++ ([5] : List Int)) ++ ([6] : List Int)) ++ ([7] : List Int)) ++ ([8] : List Int)).length) (m := 1) (k := fun ax9 cx9 Bx9 hox9 => ?_)
 have hal9 : ((((((((([1] : List Int) ++ ([2] : List Int)) ++ ([3] : List Int)) ++ ([4] : List Int)) ++ ([5] : List Int)) ++ ([6] : List Int)) ++ ([7] : List Int)) ++ ([8] : List Int)) ++ ([9] : List Int)).length = (((((((([1] : List Int) ++ ([2] : List Int)) ++ ([3] : List Int)) ++ ([4] : List Int)) ++ ([5] : List Int)) ++ ([6] : List Int)) ++ ([7] : List Int)) ++ ([8] : List Int)).length + 1 := by first | rfl | exact List.length_append | simp
 refine Mp ?_
 refine bQ ?_
 refine lF ?_
 refine Ah Ag z7 (k := fun r40 hr40 => ?_)
 refine Gt ?_
 refine Ah Ag Jp (k := fun r41 hr41 => ?_)
 refine Gs ?_
 refine Ao 12 rfl (fun hq11 => ?_) (fun hq11 => ?_)
 rotate_left
 ·exact absurd hq10 hq11
 refine cK ?_
 refine M2 ?_
 refine Ah Ag z7 (k := fun r42 hr42 => ?_)
 refine Mo ?_
 refine Ah Ag Zb (k := fun r43 hr43 => ?_)
 refine Az (((((((((([1] : List Int) ++ ([2] : List Int)) ++ ([3] : List Int)) ++ ([4] : List Int)) ++ ([5] : List Int)) ++ ([6] : List Int)) ++ ([7] : List Int)) ++ ([8] : List Int)) ++ ([9] : List Int)) ++ ([10] : List Int)) rfl Fo underlying22 Bh hox9 (qb (qb (qb (qb (qb q0))))) (Bp.lit (xs := ([10] : List Int)) Bh) ⟨by first | omega | (simp only [List.length_append, List.length_cons, List.length_nil]; omega) | (simp; omega) | (simp; done), by first | omega | (simp only [List.length_append, List.length_cons, List.length_nil]; omega) | (simp; omega) | (simp; done)⟩ (n := ((((((((([1] : List Int) ++ ([2] : List Int)) ++ ([3] : List Int)) ++ ([4] : List Int)) ++ ([5] : List Int)) ++ ([6] : List Int)) ++ ([7] : List Int)) ++ ([8] : List Int)) ++ ([9] : List Int)).length) (m := 1) (k := fun ax10 cx10 Bx10 hox10 => ?_)
 have hal10 : (((((((((([1] : List Int) ++ ([2] : List Int)) ++ ([3] : List Int)) ++ ([4] : List Int)) ++ ([5] : List Int)) ++ ([6] : List Int)) ++ ([7] : List Int)) ++ ([8] : List Int)) ++ ([9] : List Int)) ++ ([10] : List Int)).length = ((((((((([1] : List Int) ++ ([2] : List Int)) ++ ([3] : List Int)) ++ ([4] : List Int)) ++ ([5] : List Int)) ++ ([6] : List Int)) ++ ([7] : List Int)) ++ ([8] : List Int)) ++ ([9] : List Int)).length + 1 := by first | rfl | exact List.length_append | simp
 refine Mp ?_
 refine bQ ?_
 refine Vx ?_
 refine P6 ?_
 refine Xb ?_
 refine lQ ?_
 refine Z6 ?_
 refine Du [rD3] (qa (qc (qa (qa (qa (qa (qa (qa (qa (qa (qa (qa (qa (qa (qa (qa (qa (qa (qa (qa (qa (qa (qa (qa (qa (qa (qa (qa (qa (qa (qa (qa (qa (qa (qa (qa (qa (qa (qa (qa (qa (qa q0)))))))))))))))))))))))))))))))))))))))))) results73 z1 (fun w1 hw1 => ?_)
 exact ⟨ax10, cx10, Bx10, (rq (((hF.pos hq2).pos hq3).pos hq10)), (Ba (L := Bx10) (hw1.perm (qb q0)) rfl.symm), (by rw [(((hF.pos hq2).pos hq3).pos hq10).eq]; exact hox10), (by rw [(((hF.pos hq2).pos hq3).pos hq10).eq]; first | omega | (simp only [List.length_append, List.length_cons, List.length_nil]; omega) | (simp; omega) | (simp; done))⟩

theorem E4 (w : World) {ea0 : Addr} {ea1 : Addr} {ea2 : Addr} {ea3 : Addr} {n_ : Int} {v : Int} (hG : Gl w) (hE : Er w ea0 ea1 ea2 ea3) : Hn Tryz.prog 40 [(vi n_), (vi v)] w (Value.bool (Od n_ v)) := by
 have hF := Is.refl (Od n_ v)
 refine enter func40 ntmps40 (h := ?_)
 refine Ig ?_
 refine Gy (Ad call73) (fun w1 hw1 => pV w1 (n_ := n_) (hG := hG.ext hw1.ext_out) (hE := hE.ext hw1.ext_out)) (k := ?_)
 rintro w1_1 e1_1 w2_1 hw1_1 ⟨a1_1, c1_1, B1_1, he_1, hf_1, ho1_1, hl1_1⟩
 refine ⟨_, _, he_1, hw1_1.fresh hf_1, ?_⟩
 refine gA ?_
 refine Lq ?_
 refine Dr (σ1 := Nat) (σ2 := Nat) (fun n_2 x_1 => (B1_1 ++ [])) (fun n_2 x_1 => [(1, (vi v)), (4, (Value.bool false)), (8, (vs a1_1 ((El n_).length) c1_1)), (9, (vi ((((El n_).length) : Nat) : Int))), (10, (vi ((x_1 : Nat) : Int)))]) (fun n_2 x_1 => ((El n_).length) - x_1 < n_2 ∧ Is (Qc n_ v (((El n_).length) + 1) 0) (Qc n_ v n_2 x_1)) (fun n_2 x_1 => n_2) (((El n_).length) + 1) 0 ?_ se (List.Perm.refl _) ?_
 ·exact ⟨Nat.lt_succ_self _, Is.refl _⟩
 ·rintro (_ | n_2) x_1 ⟨hm4, hF3⟩
  ·omega
  refine Zd ?_
  refine Au rfl (fun hq1 => ?_) (fun hq1 => ?_)
  rotate_left
  ·refine Ca ?_
   refine La ?_
   refine Ab results40 z1 (fun w1 hw1 => ?_)
   exact ⟨(rq (hF.ok1 (hF3.neg hq1))), hw1.ext_out⟩
  refine xC ?_
  refine Af (Cb (n := (El n_).length) runUnderlying22 sizeOf3 x_1 (ho1_1.slj Bh) (gD z3) Jv) (k := ?_)
  refine Af (Bz isAgg3 x_1 0 (ho1_1.slj Bh) (gD z3)) (k := ?_)
  refine Xh ?_
  refine Zg ?_
  refine Z0 ?_
  refine Au rfl (fun hq2 => ?_) (fun hq2 => ?_)
  rotate_left
  ·refine Bq ?_
   refine jC ?_
   exact Dp n_2 (x_1 + 1) ⟨by omega, ((hF3.pos hq1).neg hq2)⟩ (Nat.lt_succ_self _) se (List.Perm.refl _)
  refine Sa ?_
  refine Ab results40 z1 (fun w1 hw1 => ?_)
  exact ⟨(rq (hF.er1 ((hF3.pos hq1).pos hq2))), hw1.ext_out⟩

end Go.Proofs.YtopjaeoklkpcpaaGreatDoor.Jd

namespace Go.Proofs.YtopjaeoklkpcpaaGreatDoor.Jd
open Go.Proofs.Tryz
open Go.Proofs
open Go.RowKit (Below)
set_option maxRecDepth 100000
set_option maxHeartbeats 8000000
set_option linter.unusedVariables false
set_option linter.unusedSimpArgs false
theorem cB : Bo Tryz.prog 30 0 0 := fun r k w => by simp [Instr.fieldAt, Instr.sureAddr, fieldPlace, Bc]
theorem Uf : Bo Tryz.prog 30 1 1 := fun r k w => by simp [Instr.fieldAt, Instr.sureAddr, fieldPlace, Bc]
theorem cC : Bo Tryz.prog 32 0 0 := fun r k w => by simp [Instr.fieldAt, Instr.sureAddr, fieldPlace, Bc]
theorem cD : Bo Tryz.prog 32 1 1 := fun r k w => by simp [Instr.fieldAt, Instr.sureAddr, fieldPlace, Bc]
theorem Sz : Bo Tryz.prog 223 0 0 := fun r k w => by simp [Instr.fieldAt, Instr.sureAddr, fieldPlace, Bc]
theorem Yj : Bo Tryz.prog 228 0 0 := fun r k w => by simp [Instr.fieldAt, Instr.sureAddr, fieldPlace, Bc]
theorem E5 : Hq Tryz.prog 223 [(0, 2)] := ⟨_, fun w => runUnderlying223 w, fun w => by simp⟩
theorem AI2 : Hq Tryz.prog 228 [(0, 2)] := ⟨_, fun w => runUnderlying228 w, fun w => by simp⟩
theorem nB (w : World) {s : Ap} : Hn Tryz.prog 152 [(vt s)] w (Value.bool (Yb s)) := by
 have hF := Is.refl (Yb s)
 refine enter func152 ntmps152 (h := ?_)
 refine Ig ?_
 refine Ah Ag (zU runUnderlying9) (k := fun r1 hr1 => ?_)
 refine lS ?_
 refine Dr (σ1 := Nat) (σ2 := Nat) (fun n_2 x_1 => ((r1, Obj.stringIter (bs s) x_1) :: [])) (fun n_2 x_1 => [(2, (Value.bool false)), (6, (Value.pointer (some ⟨r1, 0, none⟩)))]) (fun n_2 x_1 => s.length - x_1 < n_2 ∧ Is (Jh s (s.length + 1) 0) (Jh s n_2 x_1)) (fun n_2 x_1 => n_2) (s.length + 1) 0 ?_ se (List.Perm.refl _) ?_
 ·exact ⟨Nat.lt_succ_self _, Is.refl _⟩
 ·rintro (_ | n_2) x_1 ⟨hm4, hF3⟩
  ·omega
  refine Z2 ?_
  refine S2 q0 (fun hq1 => ?_) (fun hq1 => ?_)
  rotate_left
  ·refine Af Pu (k := ?_)
   refine Me ?_
   refine tF ?_
   refine La ?_
   refine Ab results152 z1 (fun w1 hw1 => ?_)
   exact ⟨(rq (hF.ok1 (hF3.neg hq1))), hw1.ext_out⟩
  have hrhq1 := AH0 s x_1
  have hphq1 := S1 s x_1
  refine Af Pu (k := ?_)
  refine Me ?_
  refine Ow rfl ?_
  refine aY ?_
  refine Jx ?_
  refine Z2 ?_
  refine Af Pu (k := ?_)
  refine Jq ?_
  refine Rx ?_
  refine Ao 12 rfl (fun hq2 => ?_) (fun hq2 => ?_)
  ·refine Ae 2 rfl ?_
   refine Xe ?_
   refine Z6 ?_
   refine Cy ?_
   refine Wa ?_
   refine Z7 ?_
   refine Ab results152 z1 (fun w1 hw1 => ?_)
   exact ⟨(rq (hF.er1 ((hF3.pos hq1).pos hq2))), hw1.ext_out⟩
  refine lP ?_
  refine Qh ?_
  refine Au rfl (fun hq3 => ?_) (fun hq3 => ?_)
  rotate_left
  ·refine Bq ?_
   refine Pp ?_
   exact Dp n_2 (x_1 + (bN s x_1).2) ⟨by omega, (((hF3.pos hq1).neg hq2).neg hq3)⟩ (Nat.lt_succ_self _) se (List.Perm.refl _)
  refine Vw ?_
  refine Cy ?_
  refine Wa ?_
  refine Z7 ?_
  refine Ab results152 z1 (fun w1 hw1 => ?_)
  exact ⟨(rq (hF.er1 (((hF3.pos hq1).neg hq2).pos hq3))), hw1.ext_out⟩

theorem vD (w : World) {s : Ap} : Hn Tryz.prog 130 [(vt s)] w (Value.bool (dW s)) := by
 have hF := Is.refl (dW s)
 refine enter func130 ntmps130 (h := ?_)
 refine Ut ?_
 refine yH ?_
 refine Af Pt (k := ?_)
 refine Cg ?_
 refine Ao 6 rfl (fun hq1 => ?_) (fun hq1 => ?_)
 rotate_left
 ·refine Ae 2 rfl ?_
  refine Ky ?_
  refine Ab results130 z1 (fun w1 hw1 => ?_)
  exact ⟨(rq (hF.neg hq1)), hw1.ext_out⟩
 refine Hf ?_
 refine Ih (Ad call152) (fun w1 hw1 => nB w1 (s := s)) (k := ?_)
 refine Vv ?_
 refine Ab results130 z1 (fun w1 hw1 => ?_)
 exact ⟨(rq (hF.pos hq1)), hw1.ext_out⟩

theorem pW (w : World) {a : Int} : Hn Tryz.prog 169 [(vi a)] w (Value.bool (Uc a)) := by
 have hF := Is.refl (Uc a)
 refine enter func169 ntmps169 (h := ?_)
 refine Ut ?_
 refine Z4 ?_
 refine cP ?_
 refine Ao 5 rfl (fun hq1 => ?_) (fun hq1 => ?_)
 rotate_left
 ·refine Ae 2 rfl ?_
  refine Ky ?_
  refine Ab results169 z1 (fun w1 hw1 => ?_)
  exact ⟨(rq (hF.neg hq1)), hw1.ext_out⟩
 refine Hf ?_
 refine cW ?_
 refine Vv ?_
 refine Ab results169 z1 (fun w1 hw1 => ?_)
 exact ⟨(rq (hF.pos hq1)), hw1.ext_out⟩

theorem vF (w : World) {a : Int} : Hn Tryz.prog 174 [(vi a)] w (Value.bool (Qo a)) := by
 have hF := Is.refl (Qo a)
 refine enter func174 ntmps174 (h := ?_)
 refine Ut ?_
 refine Z4 ?_
 refine cP ?_
 refine Ao 5 rfl (fun hq1 => ?_) (fun hq1 => ?_)
 rotate_left
 ·refine Ae 2 rfl ?_
  refine Ky ?_
  refine Ab results174 z1 (fun w1 hw1 => ?_)
  exact ⟨(rq (hF.neg hq1)), hw1.ext_out⟩
 refine Hf ?_
 refine cW ?_
 refine Vv ?_
 refine Ab results174 z1 (fun w1 hw1 => ?_)
 exact ⟨(rq (hF.pos hq1)), hw1.ext_out⟩

theorem E6 (w : World) {bits : Int} (hb : 0 ≤ bits ∧ bits ≤ 32) : Hn Tryz.prog 170 [(vi bits)] w (vi (Og bits)) := by
 have hF := Is.refl (Og bits)
 refine enter func170 ntmps170 (h := ?_)
 refine Ut ?_
 refine Z4 ?_
 refine bJ ?_
 refine Af zT (k := ?_)
 refine Z6 ?_
 refine Ab results170 z1 (fun w1 hw1 => ?_)
 exact ⟨(rq hF), hw1.ext_out⟩

theorem vG (w : World) {p : An} : Hn Tryz.prog 156 [(Value.agg [(vi p.addr), (vi p.bits)].toArray)] w (Value.bool (rRight p)) := by
 have hF := Is.refl (rRight p)
 refine enter func156 ntmps156 (h := ?_)
 refine Z2 ?_
 refine Ah Ag tB (k := fun r1 hr1 => ?_)
 refine Rw ?_
 refine Fi Da 23 [(true, 0), (true, 1), (true, 2), (true, 3), (true, 4), (true, 5), (true, 6), (true, 7), (true, 8), (true, 9), (true, 10), (false, 11), (true, 12), (true, 13), (true, 14), (true, 15), (true, 16), (true, 17), (false, 18), (true, 19), (true, 20), (true, 21), (true, 22)] z4 ?_
 refine Aw (Ai Uf) (k := ?_)
 refine Sc ?_
 refine Aw Ki (k := ?_)
 refine Gu ?_
 refine Fm 6 rfl (fun hq1 => ?_) (fun hq1 => ?_)
 rotate_left
 ·refine Bm 3 rfl ?_
  refine Rz ?_
  refine xV ?_
  refine Xg ?_
  refine Ab results156 z1 (fun w1 hw1 => ?_)
  exact ⟨(rq (hF.neg hq1)), hw1.ext_out⟩
 refine Bl (Ai Uf) (k := ?_)
 refine bK ?_
 refine Bl Pt (k := ?_)
 refine fH ?_
 refine Fm 11 rfl (fun hq2 => ?_) (fun hq2 => ?_)
 rotate_left
 ·refine Bm 3 rfl ?_
  refine xV ?_
  refine Xg ?_
  refine Ab results156 z1 (fun w1 hw1 => ?_)
  exact ⟨(rq ((hF.pos hq1).neg hq2)), hw1.ext_out⟩
 refine Bl (Ai cB) (k := ?_)
 refine bK ?_
 refine Nu (Ad call169) (fun w1 hw1 => pW w1 (a := p.addr)) (k := ?_)
 refine fH ?_
 refine Jz 16 rfl (fun hq3 => ?_) (fun hq3 => ?_)
 rotate_left
 ·refine Bm 7 rfl ?_
  refine Xg ?_
  refine Ab results156 z1 (fun w1 hw1 => ?_)
  exact ⟨(rq (((hF.pos hq1).pos hq2).f hq3)), hw1.ext_out⟩
 have hfhq3 := iC hq3
 refine Bl (Ai cB) (k := ?_)
 refine bK ?_
 refine Bl (Ai Uf) (k := ?_)
 refine bK ?_
 refine Nu (Ad call170) (fun w1 hw1 => E6 w1 (bits := p.bits) (hb := z6)) (k := ?_)
 have hs_6199 := eD (bits := p.bits) z2
 refine Bl AR4 (k := ?_)
 refine Bl Nv (k := ?_)
 refine Aw Hh (k := ?_)
 refine Y3 ?_
 refine Ab results156 z1 (fun w1 hw1 => ?_)
 exact ⟨(rq (((hF.pos hq1).pos hq2).t hq3)), hw1.ext_out⟩

theorem E7 (w : World) {p : An} (hb : 0 ≤ p.bits ∧ p.bits ≤ 32) : Hn Tryz.prog 175 [(Value.agg [(vi p.addr), (vi p.bits)].toArray)] w (vi (rV p)) := by
 have hF := Is.refl (rV p)
 refine enter func175 ntmps175 (h := ?_)
 refine Z2 ?_
 refine Ah Ag tB (k := fun r1 hr1 => ?_)
 refine Jr ?_
 refine Af (Ai Sz) (k := ?_)
 refine Af (Ai Uf) (k := ?_)
 refine O9 ?_
 refine Af zT (k := ?_)
 refine Af (yS (h := by (have := eD (bits := p.bits) z2; simp only [Og] at this; omega))) (k := ?_)
 refine Z6 ?_
 refine Ab results175 z1 (fun w1 hw1 => ?_)
 exact ⟨(rq hF), hw1.ext_out⟩

theorem vH (w : World) {p : An} : Hn Tryz.prog 163 [(Value.agg [(vi p.addr), (vi p.bits)].toArray)] w (Value.bool (Pb p)) := by
 have hF := Is.refl (Pb p)
 refine enter func163 ntmps163 (h := ?_)
 refine Z2 ?_
 refine Ah Ag tB (k := fun r1 hr1 => ?_)
 refine Jr ?_
 refine Af (Ai Sz) (k := ?_)
 refine Af (Ai Uf) (k := ?_)
 refine Hx ?_
 refine cP ?_
 refine Ao 7 rfl (fun hq1 => ?_) (fun hq1 => ?_)
 rotate_left
 ·refine Ae 4 rfl ?_
  refine Rv ?_
  refine Ae 4 rfl ?_
  refine Ky ?_
  refine Ab results163 z1 (fun w1 hw1 => ?_)
  exact ⟨(rq (hF.neg hq1)), hw1.ext_out⟩
 refine Bb (Ai Sz) (k := ?_)
 refine Bb (Ai Uf) (k := ?_)
 refine yC ?_
 refine Pj ?_
 refine Ao 13 rfl (fun hq2 => ?_) (fun hq2 => ?_)
 rotate_left
 ·refine Ae 4 rfl ?_
  refine Ky ?_
  refine Ab results163 z1 (fun w1 hw1 => ?_)
  exact ⟨(rq ((hF.pos hq1).neg hq2)), hw1.ext_out⟩
 refine Bb (Ai Sz) (k := ?_)
 refine Bb (Ai cB) (k := ?_)
 refine Vz ?_
 refine Ih (Ad call174) (fun w1 hw1 => vF w1 (a := p.addr)) (k := ?_)
 refine Vv ?_
 refine Ab results163 z1 (fun w1 hw1 => ?_)
 exact ⟨(rq ((hF.pos hq1).pos hq2)), hw1.ext_out⟩

theorem E8 (w : World) {p : An} (hb : 0 ≤ p.bits ∧ p.bits ≤ 32) : Hn Tryz.prog 164 [(Value.agg [(vi p.addr), (vi p.bits)].toArray)] w (Value.bool (iB p)) := by
 have hF := Is.refl (iB p)
 refine enter func164 ntmps164 (h := ?_)
 refine Z2 ?_
 refine Ah Ag tB (k := fun r1 hr1 => ?_)
 refine Rw ?_
 refine Fi Da 8 [(true, 0), (true, 1), (true, 2), (true, 3), (false, 4), (true, 5), (true, 6), (true, 7)] z4 ?_
 refine Aw (Ai Sz) (k := ?_)
 refine Aw (Ai cB) (k := ?_)
 refine Sc ?_
 refine Aw (Dq isAgg223 sizeOf223) (k := ?_)
 refine AF9 (Ad call175) (fun w1 hw1 => E7 w1 (p := p) (hb := z6)) (k := ?_)
 refine Aw zS (k := ?_)
 refine Aw Nv (k := ?_)
 refine Y3 ?_
 refine Ab results164 z1 (fun w1 hw1 => ?_)
 exact ⟨(rq hF), hw1.ext_out⟩

theorem vI (w : World) {p : An} : Hn Tryz.prog 153 [(Value.agg [(vi p.addr), (vi p.bits)].toArray)] w (Value.bool (Nf p)) := by
 have hF := Is.refl (Nf p)
 refine enter func153 ntmps153 (h := ?_)
 refine Z2 ?_
 refine Ah Ag tB (k := fun r1 hr1 => ?_)
 refine cV ?_
 refine Ah Ag (Eb (l := [_, _]) runUnderlying224 sizeOf221 zeroValue221) (k := fun r2 hr2 => ?_)
 refine Af (Ei runUnderlying224) (k := ?_)
 refine Lq ?_
 refine Lj ?_
 refine K8 ?_
 refine Af (Hg runUnderlying224 sizeOf221 0) (k := ?_)
 refine Af (Bv isAgg221) (k := ?_)
 refine Jq ?_
 refine Af (Dq isAgg30 sizeOf30) (k := ?_)
 refine Af (Ef (cs := [_, _]) zeroValue223 E5) (k := ?_)
 refine Fu (Ad call163) (fun w1 hw1 => vH w1 (p := p)) (k := ?_)
 refine Rj ?_
 refine Ct rfl (fun hq1 => ?_) (fun hq1 => ?_)
 ·refine Bg ?_
  refine Xj ?_
  refine Ab results153 z1 (fun w1 hw1 => ?_)
  exact ⟨(rq (hF.t hq1)), hw1.ext_out⟩
 have hfhq1 := eE tC
 refine fS ?_
 refine Af (Hg runUnderlying224 sizeOf221 1) (k := ?_)
 refine Af (Bv isAgg221) (k := ?_)
 refine Jq ?_
 refine Af (Dq isAgg30 sizeOf30) (k := ?_)
 refine Af (Ef (cs := [_, _]) zeroValue223 E5) (k := ?_)
 refine Fu (Ad call164) (fun w1 hw1 => E8 w1 (p := p) (hb := z6)) (k := ?_)
 refine Rj ?_
 refine Ct rfl (fun hq2 => ?_) (fun hq2 => ?_)
 ·refine Bg ?_
  refine Xj ?_
  refine Ab results153 z1 (fun w1 hw1 => ?_)
  exact ⟨(rq ((hF.f hq1).t hq2)), hw1.ext_out⟩
 refine Xi ?_
 refine La ?_
 refine Ab results153 z1 (fun w1 hw1 => ?_)
 exact ⟨(rq ((hF.f hq1).f hq2)), hw1.ext_out⟩

theorem pX (w : World) {p : Al} : Hn Tryz.prog 157 [(Value.agg [(vi p.lo), (vi p.hi)].toArray)] w (Value.bool (Oh p)) := by
 have hF := Is.refl (Oh p)
 refine enter func157 ntmps157 (h := ?_)
 refine Z2 ?_
 refine Ah Ag tB (k := fun r1 hr1 => ?_)
 refine Jr ?_
 refine Af (Ai cC) (k := ?_)
 refine Hx ?_
 refine cP ?_
 refine Ao 6 rfl (fun hq1 => ?_) (fun hq1 => ?_)
 rotate_left
 ·refine Ae 5 rfl ?_
  refine jH ?_
  refine Ky ?_
  refine Ab results157 z1 (fun w1 hw1 => ?_)
  exact ⟨(rq (hF.neg hq1)), hw1.ext_out⟩
 refine Bb (Ai cC) (k := ?_)
 refine Vz ?_
 refine Bb (Ai cD) (k := ?_)
 refine yC ?_
 refine Pj ?_
 refine Ao 13 rfl (fun hq2 => ?_) (fun hq2 => ?_)
 rotate_left
 ·refine Ae 3 rfl ?_
  refine Ky ?_
  refine Ab results157 z1 (fun w1 hw1 => ?_)
  exact ⟨(rq ((hF.pos hq1).neg hq2)), hw1.ext_out⟩
 refine Bb (Ai cD) (k := ?_)
 refine yC ?_
 refine Vv ?_
 refine Ab results157 z1 (fun w1 hw1 => ?_)
 exact ⟨(rq ((hF.pos hq1).pos hq2)), hw1.ext_out⟩

theorem vJ (w : World) {p : Al} : Hn Tryz.prog 154 [(Value.agg [(vi p.lo), (vi p.hi)].toArray)] w (Value.bool (Qp p)) := by
 have hF := Is.refl (Qp p)
 refine enter func154 ntmps154 (h := ?_)
 refine Z2 ?_
 refine Ah Ag tB (k := fun r1 hr1 => ?_)
 refine Jr ?_
 refine Af (Dq isAgg32 sizeOf32) (k := ?_)
 refine Ah Ag (Eb (l := [_, _, _]) runUnderlying232 sizeOf226 zeroValue226) (k := fun r2 hr2 => ?_)
 refine Fa (args := [_, _]) (Ad call165) func165 ntmps165 ?_
 refine Z2 ?_
 refine Ah Ag tB (k := fun r3 hr3 => ?_)
 refine Xc ?_
 refine Af (Ei runUnderlying232) (k := ?_)
 refine Lq ?_
 refine Lj ?_
 refine K8 ?_
 refine Af (Hg runUnderlying232 sizeOf226 0) (k := ?_)
 refine Af (Bv isAgg226) (k := ?_)
 refine Jq ?_
 refine AE1 ?_
 refine Fa (args := [_]) (Ad call166) func166 ntmps166 ?_
 refine Z2 ?_
 refine Ah Ag tB (k := fun r4 hr4 => ?_)
 refine Jr ?_
 refine Af (Ai Yj) (k := ?_)
 refine Af (Ai cC) (k := ?_)
 refine Hx ?_
 refine Af (Ai Yj) (k := ?_)
 refine Af (Ai cD) (k := ?_)
 refine Hx ?_
 refine Af Pt (k := ?_)
 refine Z6 ?_
 refine Cc results166 z1 ?_
 refine Ze ?_
 refine Au rfl (fun hq1 => ?_) (fun hq1 => ?_)
 ·refine Bg ?_
  refine Xj ?_
  refine P1 ?_
  refine Ab results154 z1 (fun w1 hw1 => ?_)
  exact ⟨(rq (hF.pos hq1)), hw1.ext_out⟩
 refine fS ?_
 refine Af (Hg runUnderlying232 sizeOf226 1) (k := ?_)
 refine Af (Bv isAgg226) (k := ?_)
 refine Jq ?_
 refine AE1 ?_
 refine Fa (args := [_]) (Ad call167) func167 ntmps167 ?_
 refine Z2 ?_
 refine Ah Ag tB (k := fun r5 hr5 => ?_)
 refine Jr ?_
 refine Af (Ai Yj) (k := ?_)
 refine Af (Ai cC) (k := ?_)
 refine Hx ?_
 refine Af Ki (k := ?_)
 refine Z6 ?_
 refine Cc results167 z1 ?_
 refine Ze ?_
 refine Au rfl (fun hq2 => ?_) (fun hq2 => ?_)
 ·refine Bg ?_
  refine Xj ?_
  refine P1 ?_
  refine Ab results154 z1 (fun w1 hw1 => ?_)
  exact ⟨(rq ((hF.neg hq1).pos hq2)), hw1.ext_out⟩
 refine fS ?_
 refine Af (Hg runUnderlying232 sizeOf226 2) (k := ?_)
 refine Af (Bv isAgg226) (k := ?_)
 refine Jq ?_
 refine AE1 ?_
 refine Fa (args := [_]) (Ad call168) func168 ntmps168 ?_
 refine Z2 ?_
 refine Ah Ag tB (k := fun r6 hr6 => ?_)
 refine Jr ?_
 refine Af (Ai Yj) (k := ?_)
 refine Af (Ai cD) (k := ?_)
 refine Hx ?_
 refine Af Pt (k := ?_)
 refine Z6 ?_
 refine Cc results168 z1 ?_
 refine Ze ?_
 refine Au rfl (fun hq3 => ?_) (fun hq3 => ?_)
 ·refine Bg ?_
  refine Xj ?_
  refine P1 ?_
  refine Ab results154 z1 (fun w1 hw1 => ?_)
  exact ⟨(rq (((hF.neg hq1).neg hq2).pos hq3)), hw1.ext_out⟩
 refine Xi ?_
 refine La ?_
 refine P1 ?_
 refine Ab results154 z1 (fun w1 hw1 => ?_)
 exact ⟨(rq (((hF.neg hq1).neg hq2).neg hq3)), hw1.ext_out⟩

end Go.Proofs.YtopjaeoklkpcpaaGreatDoor.Jd

namespace Go.Proofs.YtopjaeoklkpcpaaGreatDoor.Jd
open Go.Proofs.Tryz
open Go.Proofs
open Go.RowKit (Below)
set_option maxRecDepth 100000
set_option maxHeartbeats 8000000
set_option linter.unusedVariables false
set_option linter.unusedSimpArgs false
def Et (x : Bf) : List Value := [Value.bool x.allow, vi x.pfx.addr, vi x.pfx.bits, vi x.prt.lo, vi x.prt.hi]
theorem Ck : Dj Et 5 := ⟨by omega, fun _ => rfl, fun _ => rfl⟩
theorem sA : Bo Tryz.prog 34 1 1 := fun r k w => by simp [Instr.fieldAt, Instr.sureAddr, fieldPlace, Bc]
theorem sB : Bo Tryz.prog 34 2 3 := fun r k w => by simp [Instr.fieldAt, Instr.sureAddr, fieldPlace, Bc]
theorem nD : Bo Tryz.prog 189 0 0 := fun r k w => by simp [Instr.fieldAt, Instr.sureAddr, fieldPlace, Bc]
theorem E9 : Hq Tryz.prog 189 [(0, 5)] := ⟨_, fun w => runUnderlying189 w, fun w => by simp⟩
theorem Vk : Ty Tryz.prog 34 5 40 (Value.agg [(Value.bool false), (vi 0), (vi 0), (vi 0), (vi 0)].toArray) := ⟨⟨Tryz.t34, by kernel_rfl, rfl, rfl, rfl⟩, rfl⟩
theorem eL {α : Type} {s zs : List α} {I n : Nat} {x : α} (hI : I ≤ s.length) (hn : n = s.length - I) (h1 : zs.take I = s.take I) (h2 : zs.length = s.length + 1) :
  (zs.take I ++ [x].take 1 ++ zs.drop (I + 1)).take (I + 1) ++ (s.drop I).take n ++ (zs.take I ++ [x].take 1 ++ zs.drop (I + 1)).drop (I + 1 + n) = Py s I x := by
 subst hn
 have l1 : (s.take I).length = I := by rw [List.length_take]; omega
 have l2 : (s.take I ++ [x]).length = I + 1 := by simp [l1]
 have e1 : [x].take 1 = [x] := rfl
 have e3 : (s.drop I).take (s.length - I) = s.drop I := List.take_of_length_le Hb
 have e4 : (s.take I ++ [x] ++ zs.drop (I + 1)).drop (I + 1 + (s.length - I)) = [] := List.drop_eq_nil_of_le (by rw [List.length_append, l2, List.length_drop, h2]; omega)
 rw [h1, e1, e3, List.take_left' l2, e4]
 simp [Py]
theorem Zs {α : Type} {s : List α} {I n : Nat} {x : α} (hI : I < s.length) (hn : n = s.length - I) :
  (s.take (I + 1) ++ (s.drop I).take n ++ s.drop (I + 1 + n)).take I ++ [x].take 1 ++ (s.take (I + 1) ++ (s.drop I).take n ++ s.drop (I + 1 + n)).drop (I + 1) = Py s I x := by
 subst hn
 have l1 : (s.take (I + 1)).length = I + 1 := by rw [List.length_take]; omega
 rw [List.drop_eq_nil_of_le (show s.length ≤ I + 1 + (s.length - I) by omega), List.append_nil, List.take_of_length_le (show (s.drop I).length ≤ s.length - I by simp), List.drop_left' l1, List.take_append_of_le_length z2, List.take_take, Nat.min_eq_left z2]
 simp [Py]
theorem kL {α : Type} {s : List α} {i : Int} {x : α} (h : i = (s.length : Int)) : s ++ [x] = Py s i.toNat x := by
 have : i.toNat = s.length := by omega
 rw [this, A1]
theorem gL {N : Nat} {D : List Deferred} {b0 : World} {L : Aj} {E : Ew} {ty : TypeId} {x y : Operand} {tys : Array TypeId} {v_a s_a : Option Addr} {v_c s_c lo n cc : Nat} {s_B : Aj} {s : List Bf} (he : ∃ r cs T, v_a = some (⟨r, 0, none⟩ : Addr) ∧ b0.heap[r]? = some (.cells cs T (0, 0)) ∧ r ∉ keys s_B) (ho : Bi Et 5 34 s_a s_c s_B s) (hs : 0 < s_c)
  (hB : ∀ p ∈ s_B, p ∈ L) (hx : ev E x = some (.slice v_a 1 v_c) := by rfl) (hy : ev E y = some (.slice (Ju s_a 5 lo s_c) n cc) := by rfl) :
  Dl Tryz.prog N D b0 (keys s_B) L E (.call { callee := .value (.func 177), args := #[x, y], argTypes := tys }) ty (.bool false) := fun ac w ha hw => by
 obtain ⟨r, cs, T, rfl, hr, hnr⟩ := he
 rcases ho with ⟨rfl, rfl, rfl⟩ | ⟨r', cur, fz, rfl, rfl, hfz, h1, h2, h3⟩
 ·omega
 ·have hh : w.heap[r']? = some (.cells cur 34 fz) := hw.own _ (hB _ List.mem_cons_self)
  have hv : w.heap[r]? = some (.cells cs T (0, 0)) := (hw.same r (Array.getElem?_eq_some_iff.1 hr).1 hnr).trans hr
  have hne : r ≠ r' := fun e => hnr (by subst e; simp [keys])
  obtain ⟨ad, hoff, had⟩ : ∃ ad : Addr, Ju (some (⟨r', 0, none⟩ : Addr)) 5 lo s_c = some ad ∧ ad.block = r' := by
   unfold Ju
   split
   ·exact ⟨_, rfl, rfl⟩
   ·exact ⟨_, rfl, by show (Addr.add ⟨r', 0, none⟩ _).block = r'; rw [Bc]⟩
  have hfr : ∀ k, w.frozen? ⟨r, k, none⟩ = false := fun k => by simp [World.frozen?, hv]
  have hrun := Lib.run_overlaps_apart (P := Tryz.prog) w 49 4 34 underlying49 5 sizeOf34 (⟨r, 0, none⟩ : Addr) ad 1 v_c n cc (by rw [had]; exact hne) T 34 cs.size cur.size (by simp [World.shape?, hv]) (by rw [had]; simp [World.shape?, hh]) (by rw [h2]; omega) (hfr 0) (hfr cs.size)
  have h8 := @run_callFunc_extern Tryz.prog 177 _ (Extern.SlicesOverlaps.overlaps #[49, 49] #[4]) func177 z4 z4 z4 z4
  rw [hoff] at hy
  simp only [Gc, execOp, resolve, Sem.run_bind, Act.eval, Deferred.ofValue, Sem.run_pure, Result.andThen_ok]
  simp only [invoke, List.map_toArray, List.map_cons, List.map_nil, ha.eval hx, ha.eval hy]
  have h9 := h8 #[vs (some { block := r, off := 0 }) 1 v_c, vs (some ad) n cc] w
  rw [hrun] at h9
  simpa using h9
theorem Wp (w : World) {s_a : Option Addr} {s_c : Nat} {s : List Bf} (h_s : Sl w Et 5 s_a s) (n_s : s.length ≤ 1000000) : Calls Tryz.prog 82 (List.toArray [(vs s_a s.length s_c)]) w fun e w2 => ∃ a1 : Option Addr, ∃ c1 : Nat, ∃ B1 : Aj, e = .returned (vs a1 s.length c1) ∧ Dh w w2 B1 ∧ Bi Et 5 34 a1 c1 B1 s := by
 have hF := Is.refl s
 refine enter func82 ntmps82 (h := ?_)
 refine Ig ?_
 refine Af (Xs runUnderlying49) (k := ?_)
 refine Z0 ?_
 refine Ct rfl (fun hq1 => ?_) (fun hq1 => ?_)
 ·refine Bg ?_
  refine Kz ?_
  refine Ab results82 z1 (fun w1 hw1 => ?_)
  have hcan0 : ([] : List Bf) = s := by (first | rfl | (exact He h_s Ey))
  have hlen0 : 0 = s.length := by first | (rw [← hcan0]; done) | (rw [← hcan0]; first | rfl | (simp; done) | (simp only [List.length_append, List.length_take, List.length_drop, List.length_set, List.length_replicate, List.length_cons, List.length_nil, List.length_map, Cq, Cp]; omega) | (simp; omega))
  exact ⟨none, 0, [], kZ, (hw1.fresh_out.sub Nr), (hcan0 ▸ Bi.nil)⟩
 refine Rr ?_
 refine Ah Ag (Eb (l := []) runUnderlying49 sizeOf34 zeroValue34) (k := fun r1 hr1 => ?_)
 refine Cg ?_
 refine Az s (List.nil_append _) Vk underlying49 Ck Bi.nil (List.Perm.refl _) (Bp.of_base h_s) ⟨by omega, by omega⟩ (n := 0) (m := s.length) (k := fun ax1 cx1 Bx1 hox1 => ?_)
 refine Z6 ?_
 refine Ab results82 z1 (fun w1 hw1 => ?_)
 have hcan0 : s = s := by (first | rfl | (exact He h_s Ey))
 have hlen0 : s.length = s.length := by first | (rw [← hcan0]; done) | (rw [← hcan0]; first | rfl | (simp; done) | (simp only [List.length_append, List.length_take, List.length_drop, List.length_set, List.length_replicate, List.length_cons, List.length_nil, List.length_map, Cq, Cp]; omega) | (simp; omega))
 exact ⟨ax1, cx1, Bx1, kZ, (Ba (L := Bx1) (hw1.perm (List.Perm.refl _)) rfl.symm), (hcan0 ▸ hox1)⟩

theorem nF (w : World) {s_a : Option Addr} {s_c : Nat} {s_B : Aj} {v_a : Option Addr} {v_c : Nat} {s : List Bf} {i : Int} {x : Bf} (o_s : Bi Et 5 34 s_a s_c s_B s) (b_s : ∀ p ∈ s_B, w.heap[p.1]? = some p.2) (n_s : s.length ≤ 1000000) (h_v : Sl w Et 5 v_a ([x] : List Bf)) (d_v : ∀ m ∈ keys s_B, rP v_a ([x] : List Bf) m) (e_v : ∃ r cs T, v_a = some ⟨r, 0, none⟩ ∧ w.heap[r]? = some (.cells cs T (0, 0)) ∧ r ∉ keys s_B) (hi : 0 ≤ i ∧ i ≤ s.length) : Calls Tryz.prog 172 (List.toArray [(vs s_a s.length s_c), (vi i), (vs v_a 1 v_c)]) w fun e w2 => ∃ a1 : Option Addr, ∃ c1 : Nat, ∃ B1 : Aj, e = .returned (vs a1 ((Py s i.toNat x).length) c1) ∧ Tr w w2 s_B B1 ∧ Bi Et 5 34 a1 c1 B1 (Py s i.toNat x) := by
 have hF := Is.refl (Py s i.toNat x)
 have hiN : i.toNat ≤ s.length := by omega
 have hi1 : (i + 1).toNat = i.toNat + 1 := by omega
 have hMk : ∀ k ∈ keys s_B, k < w.heap.size := fun k hk => by
  obtain ⟨o, ho⟩ := Ii hk
  exact (Array.getElem?_eq_some_iff.1 (b_s _ ho)).1
 have hle0 := o_s.le'
 refine pB (keys s_B) (s_B ++ []) (by simpa using b_s) (fun p hp => Pv (by simpa using hp)) (by simpa using o_s.nd) func172 ntmps172 (h := ?_)
 refine Ut ?_
 refine Pk ?_
 have hle1 := o_s.le'
 have hld2 : (s.drop i.toNat).length = s.length - i.toNat := List.length_drop
 refine Af (Fw (n := s.length) (c := s_c) (i := i) i.toNat (s.drop i.toNat).length runUnderlying49 sizeOf34 (hlo := z3) (hnc := Ru) (hm := z5)) (k := ?_)
 refine Pm ?_
 refine Zh ?_
 refine Xc ?_
 refine Zg ?_
 refine Z0 ?_
 refine Gj rfl ?_
 refine aY ?_
 refine P5 ?_
 refine Rw ?_
 refine Pk ?_
 refine Zg ?_
 refine Z0 ?_
 refine Au rfl (fun hq3 => ?_) (fun hq3 => ?_)
 ·refine Bg ?_
  refine lN ?_
  refine Az (s ++ ([x] : List Bf)) rfl Vk underlying49 Ck o_s q0 (Bp.of_world h_v d_v) ⟨by omega, by omega⟩ (n := s.length) (m := 1) (k := fun ax1 cx1 Bx1 hox1 => ?_)
  have hal1 : (s ++ ([x] : List Bf)).length = s.length + 1 := by first | rfl | exact List.length_append | simp
  refine Pi ?_
  refine Ab results172 z1 (fun w1 hw1 => ?_)
  have hcan0 : (s ++ ([x] : List Bf)) = (Py s i.toNat x) := by (first | exact kL z2 | (simp only [hi1]; exact eL hiN rfl (List.take_left' (by rw [List.length_take]; omega)) z73) | (simp only [hi1]; exact Zs z2 rfl))
  have hlen0 : (s ++ ([x] : List Bf)).length = (Py s i.toNat x).length := by first | (rw [← hcan0]; done) | (rw [← hcan0]; first | rfl | (simp; done) | (simp only [List.length_append, List.length_take, List.length_drop, List.length_set, List.length_replicate, List.length_cons, List.length_nil, List.length_map, Cq, Cp]; omega) | (simp; omega))
  exact ⟨ax1, cx1, Bx1, kZ, ((hw1.perm (List.Perm.refl _)).tr_out.sub z47), (hcan0 ▸ hox1)⟩
 refine Js ?_
 refine Pk ?_
 refine Z8 ?_
 refine Af (zZ runUnderlying49) (k := ?_)
 refine Af Lu (k := ?_)
 refine Z0 ?_
 refine Au rfl (fun hq4 => ?_) (fun hq4 => ?_)
 ·refine Bg ?_
  refine lN ?_
  have hl5 : (s.take i.toNat).length = i.toNat := by rw [List.length_take]; omega
  have hl5c := o_s.le'
  refine Af (Fz (s.take i.toNat).length runUnderlying49 (fun w => ⟨_, sizeOf34 w⟩) (hm := z2) (hi := z2)) (k := ?_)
  refine K9 ?_
  refine Z8 ?_
  refine bJ ?_
  refine dR (i := ((((s.length : Nat) : Int) + 1) - i)) (n := (s.take i.toNat).length) (c := s_c) (x0 := default) (xs := (s.take i.toNat)) (m := ((((s.length : Nat) : Int) + 1) - i).toNat) Vk underlying49 underlying3 Ck rfl ((o_s.take Ck i.toNat).slj Ck) z3 z3 z3 ⟨by first | exact ix, by first | exact ix⟩ z2 (k := fun ax2 cx2 Bx2 hox2 => ?_)
  refine Xh ?_
  have hle6 := hox2.le'
  have hld7 : (((s.take i.toNat) ++ List.replicate (((((s.length : Nat) : Int) + 1) - i).toNat) default).drop i.toNat).length = ((s.take i.toNat) ++ List.replicate (((((s.length : Nat) : Int) + 1) - i).toNat) default).length - i.toNat := List.length_drop
  refine Af (Fw (n := ((s.take i.toNat) ++ List.replicate (((((s.length : Nat) : Int) + 1) - i).toNat) default).length) (c := cx2) (i := i) i.toNat (((s.take i.toNat) ++ List.replicate (((((s.length : Nat) : Int) + 1) - i).toNat) default).drop i.toNat).length runUnderlying49 sizeOf34 (hlo := z3) (hnc := Ru) (hm := z5)) (k := ?_)
  refine Cg ?_
  refine dP (dn := (((s.take i.toNat) ++ List.replicate (((((s.length : Nat) : Int) + 1) - i).toNat) default).drop i.toNat).length) (sn := 1) i.toNat 1 (((s.take i.toNat) ++ List.replicate (((((s.length : Nat) : Int) + 1) - i).toNat) default).take i.toNat ++ ([x] : List Bf).take 1 ++ ((s.take i.toNat) ++ List.replicate (((((s.length : Nat) : Int) + 1) - i).toNat) default).drop (i.toNat + 1)) rfl Vk underlying49 Ck hox2 q0 (Bp.of_world h_v d_v) Ri Ri Ri Ri (kk := fun Bx3 hox3 => ?_)
  refine Me ?_
  refine AO8 ?_
  refine Gu ?_
  refine Aw gV (k := ?_)
  have hle8 := hox3.le'
  have hld9 : ((((s.take i.toNat) ++ List.replicate (((((s.length : Nat) : Int) + 1) - i).toNat) default).take i.toNat ++ ([x] : List Bf).take 1 ++ ((s.take i.toNat) ++ List.replicate (((((s.length : Nat) : Int) + 1) - i).toNat) default).drop (i.toNat + 1)).drop ((i + 1).toNat)).length = (((s.take i.toNat) ++ List.replicate (((((s.length : Nat) : Int) + 1) - i).toNat) default).take i.toNat ++ ([x] : List Bf).take 1 ++ ((s.take i.toNat) ++ List.replicate (((((s.length : Nat) : Int) + 1) - i).toNat) default).drop (i.toNat + 1)).length - ((i + 1).toNat) := List.length_drop
  refine Aw (Fw (n := ((s.take i.toNat) ++ List.replicate (((((s.length : Nat) : Int) + 1) - i).toNat) default).length) (c := cx2) (i := (i + 1)) ((i + 1).toNat) ((((s.take i.toNat) ++ List.replicate (((((s.length : Nat) : Int) + 1) - i).toNat) default).take i.toNat ++ ([x] : List Bf).take 1 ++ ((s.take i.toNat) ++ List.replicate (((((s.length : Nat) : Int) + 1) - i).toNat) default).drop (i.toNat + 1)).drop ((i + 1).toNat)).length runUnderlying49 sizeOf34 (hlo := z3) (hnc := Ru) (hm := z5)) (k := ?_)
  refine Xa ?_
  have hle10 := o_s.le'
  have hld11 : (s.drop i.toNat).length = s.length - i.toNat := List.length_drop
  refine Aw (Fw (n := s.length) (c := s_c) (i := i) i.toNat (s.drop i.toNat).length runUnderlying49 sizeOf34 (hlo := z3) (hnc := Ru) (hm := z5)) (k := ?_)
  refine dQ (dn := ((((s.take i.toNat) ++ List.replicate (((((s.length : Nat) : Int) + 1) - i).toNat) default).take i.toNat ++ ([x] : List Bf).take 1 ++ ((s.take i.toNat) ++ List.replicate (((((s.length : Nat) : Int) + 1) - i).toNat) default).drop (i.toNat + 1)).drop ((i + 1).toNat)).length) (sn := (s.drop i.toNat).length) ((i + 1).toNat) (s.length - i.toNat) ((((s.take i.toNat) ++ List.replicate (((((s.length : Nat) : Int) + 1) - i).toNat) default).take i.toNat ++ ([x] : List Bf).take 1 ++ ((s.take i.toNat) ++ List.replicate (((((s.length : Nat) : Int) + 1) - i).toNat) default).drop (i.toNat + 1)).take ((i + 1).toNat) ++ (s.drop i.toNat).take (s.length - i.toNat) ++ (((s.take i.toNat) ++ List.replicate (((((s.length : Nat) : Int) + 1) - i).toNat) default).take i.toNat ++ ([x] : List Bf).take 1 ++ ((s.take i.toNat) ++ List.replicate (((((s.length : Nat) : Int) + 1) - i).toNat) default).drop (i.toNat + 1)).drop ((i + 1).toNat + (s.length - i.toNat))) rfl Vk underlying49 Ck hox3 q0 (Bp.off (o_s.slj Ck (by intro p hp; first | exact hp | (simp [hp]; done))) i.toNat s_c Ru) Ri Ri Ri Ri (kk := fun Bx5 hox5 => ?_)
  refine bC ?_
  refine Pm ?_
  refine Pi ?_
  refine Ab results172 z1 (fun w1 hw1 => ?_)
  have hcan0 : ((((s.take i.toNat) ++ List.replicate (((((s.length : Nat) : Int) + 1) - i).toNat) default).take i.toNat ++ ([x] : List Bf).take 1 ++ ((s.take i.toNat) ++ List.replicate (((((s.length : Nat) : Int) + 1) - i).toNat) default).drop (i.toNat + 1)).take ((i + 1).toNat) ++ (s.drop i.toNat).take (s.length - i.toNat) ++ (((s.take i.toNat) ++ List.replicate (((((s.length : Nat) : Int) + 1) - i).toNat) default).take i.toNat ++ ([x] : List Bf).take 1 ++ ((s.take i.toNat) ++ List.replicate (((((s.length : Nat) : Int) + 1) - i).toNat) default).drop (i.toNat + 1)).drop ((i + 1).toNat + (s.length - i.toNat))) = (Py s i.toNat x) := by (first | exact kL z2 | (simp only [hi1]; exact eL hiN rfl (List.take_left' (by rw [List.length_take]; omega)) z73) | (simp only [hi1]; exact Zs z2 rfl))
  have hlen0 : ((s.take i.toNat) ++ List.replicate (((((s.length : Nat) : Int) + 1) - i).toNat) default).length = (Py s i.toNat x).length := by first | (rw [← hcan0]; done) | (rw [← hcan0]; first | rfl | (simp; done) | (simp only [List.length_append, List.length_take, List.length_drop, List.length_set, List.length_replicate, List.length_cons, List.length_nil, List.length_map, Cq, Cp]; omega) | (simp; omega))
  exact ⟨ax2, cx2, Bx5, kZ, ((hw1.perm (List.Perm.refl _)).tr_out.sub z47), (hcan0 ▸ hox5)⟩
 refine aY ?_
 refine Pk ?_
 refine J8 ?_
 refine Af (Fz (s.length + 1) runUnderlying49 (fun w => ⟨_, sizeOf34 w⟩) (hm := z2) (hi := z2)) (k := ?_)
 refine Rw ?_
 refine Pk ?_
 refine Cg ?_
 refine J8 ?_
 have hle12 := o_s.le'
 have hld13 : (s.drop ((i + 1).toNat)).length = s.length - ((i + 1).toNat) := List.length_drop
 refine Af (Fw (n := (s.length + 1)) (c := s_c) (i := (i + 1)) ((i + 1).toNat) ((s.length + 1) - (i + 1).toNat) runUnderlying49 sizeOf34 (hlo := z3) (hnc := Ru) (hm := z5)) (k := ?_)
 refine Af (gL e_v o_s z2 (by intro p hp; simp [hp])) (k := ?_)
 refine Rj ?_
 refine Ow rfl ?_
 refine Bg ?_
 refine AO8 ?_
 refine Gu ?_
 refine Aw gV (k := ?_)
 have hle14 := o_s.le'
 have hld15 : (s.drop ((i + 1).toNat)).length = s.length - ((i + 1).toNat) := List.length_drop
 refine Aw (Fw (n := (s.length + 1)) (c := s_c) (i := (i + 1)) ((i + 1).toNat) ((s.length + 1) - (i + 1).toNat) runUnderlying49 sizeOf34 (hlo := z3) (hnc := Ru) (hm := z5)) (k := ?_)
 refine Xa ?_
 have hle16 := o_s.le'
 have hld17 : (s.drop i.toNat).length = s.length - i.toNat := List.length_drop
 refine Aw (Fw (n := (s.length + 1)) (c := s_c) (i := i) i.toNat ((s.length + 1) - i.toNat) runUnderlying49 sizeOf34 (hlo := z3) (hnc := Ru) (hm := z5)) (k := ?_)
 refine dQ (dn := ((s.length + 1) - (i + 1).toNat)) (sn := ((s.length + 1) - i.toNat)) ((i + 1).toNat) (s.length - i.toNat) (s.take ((i + 1).toNat) ++ (s.drop i.toNat).take (s.length - i.toNat) ++ s.drop ((i + 1).toNat + (s.length - i.toNat))) rfl Vk underlying49 Ck o_s q0 (Bp.off (o_s.slj Ck (by intro p hp; first | exact hp | (simp [hp]; done))) i.toNat s_c Ru) Ri Ri Ri Ri (kk := fun Bx7 hox7 => ?_)
 refine bC ?_
 refine Z0 ?_
 refine Pk ?_
 have hle18 := hox7.le'
 have hld19 : ((s.take ((i + 1).toNat) ++ (s.drop i.toNat).take (s.length - i.toNat) ++ s.drop ((i + 1).toNat + (s.length - i.toNat))).drop i.toNat).length = (s.take ((i + 1).toNat) ++ (s.drop i.toNat).take (s.length - i.toNat) ++ s.drop ((i + 1).toNat + (s.length - i.toNat))).length - i.toNat := List.length_drop
 refine Af (Fw (n := (s.length + 1)) (c := s_c) (i := i) i.toNat ((s.take ((i + 1).toNat) ++ (s.drop i.toNat).take (s.length - i.toNat) ++ s.drop ((i + 1).toNat + (s.length - i.toNat))).drop i.toNat).length runUnderlying49 sizeOf34 (hlo := z3) (hnc := Ru) (hm := z5)) (k := ?_)
 refine Cg ?_
 refine dP (dn := ((s.take ((i + 1).toNat) ++ (s.drop i.toNat).take (s.length - i.toNat) ++ s.drop ((i + 1).toNat + (s.length - i.toNat))).drop i.toNat).length) (sn := 1) i.toNat 1 ((s.take ((i + 1).toNat) ++ (s.drop i.toNat).take (s.length - i.toNat) ++ s.drop ((i + 1).toNat + (s.length - i.toNat))).take i.toNat ++ ([x] : List Bf).take 1 ++ (s.take ((i + 1).toNat) ++ (s.drop i.toNat).take (s.length - i.toNat) ++ s.drop ((i + 1).toNat + (s.length - i.toNat))).drop (i.toNat + 1)) rfl Vk underlying49 Ck hox7 q0 (Bp.of_world h_v d_v) Ri Ri Ri Ri (kk := fun Bx8 hox8 => ?_)
 refine Pm ?_
 refine Pi ?_
 refine Ab results172 z1 (fun w1 hw1 => ?_)
 have hcan0 : ((s.take ((i + 1).toNat) ++ (s.drop i.toNat).take (s.length - i.toNat) ++ s.drop ((i + 1).toNat + (s.length - i.toNat))).take i.toNat ++ ([x] : List Bf).take 1 ++ (s.take ((i + 1).toNat) ++ (s.drop i.toNat).take (s.length - i.toNat) ++ s.drop ((i + 1).toNat + (s.length - i.toNat))).drop (i.toNat + 1)) = (Py s i.toNat x) := by (first | exact kL z2 | (simp only [hi1]; exact eL hiN rfl (List.take_left' (by rw [List.length_take]; omega)) z73) | (simp only [hi1]; exact Zs z2 rfl))
 have hlen0 : (s.length + 1) = (Py s i.toNat x).length := by first | (rw [← hcan0]; done) | (rw [← hcan0]; first | rfl | (simp; done) | (simp only [List.length_append, List.length_take, List.length_drop, List.length_set, List.length_replicate, List.length_cons, List.length_nil, List.length_map, Cq, Cp]; omega) | (simp; omega))
 exact ⟨s_a, s_c, Bx8, kZ, ((hw1.perm (List.Perm.refl _)).tr_out.sub z47), (hcan0 ▸ hox8)⟩

theorem nG (w : World) {s_a : Option Addr} {s_c : Nat} {s_B : Aj} {s : List Bf} {i : Int} {j : Int} (o_s : Bi Et 5 34 s_a s_c s_B s) (b_s : ∀ p ∈ s_B, w.heap[p.1]? = some p.2) (n_s : s.length ≤ 1000000) (hi : 0 ≤ i ∧ i < j ∧ j ≤ s.length) : Calls Tryz.prog 173 (List.toArray [(vs s_a s.length s_c), (vi i), (vi j)]) w fun e w2 => ∃ a1 : Option Addr, ∃ c1 : Nat, ∃ B1 : Aj, e = .returned (vs a1 ((delL s i.toNat j.toNat).length) c1) ∧ Tr w w2 s_B B1 ∧ Bi Et 5 34 a1 c1 B1 (delL s i.toNat j.toNat) := by
 have hF := Is.refl (delL s i.toNat j.toNat)
 have hiN : i.toNat < j.toNat ∧ j.toNat ≤ s.length := by omega
 have hMk : ∀ k ∈ keys s_B, k < w.heap.size := fun k hk => by
  obtain ⟨o, ho⟩ := Ii hk
  exact (Array.getElem?_eq_some_iff.1 (b_s _ ho)).1
 have hle0 := o_s.le'
 refine pB (keys s_B) (s_B ++ []) (by simpa using b_s) (fun p hp => Pv (by simpa using hp)) (by simpa using o_s.nd) func173 ntmps173 (h := ?_)
 refine Ut ?_
 refine Pk ?_
 refine K9 ?_
 refine Zh ?_
 have hle1 := o_s.le'
 refine Af (Sn (n := s.length) (c := s_c) (i := i) (i2 := j) (i3 := ((s.length : Nat) : Int)) i.toNat j.toNat s.length (j.toNat - i.toNat) runUnderlying49 sizeOf34 (hlo := z3) (hhi := z3) (hmx := z3) (hm := rfl)) (k := ?_)
 refine Me ?_
 refine Pk ?_
 refine Zg ?_
 refine Z0 ?_
 refine Au rfl (fun hq2 => ?_) (fun hq2 => ?_)
 ·exfalso
  omega
 refine aY ?_
 refine P5 ?_
 refine AP3 ?_
 refine Xa ?_
 have hl3 : (s.take i.toNat).length = i.toNat := by rw [List.length_take]; omega
 have hl3c := o_s.le'
 refine Aw (Fz (s.take i.toNat).length runUnderlying49 (fun w => ⟨_, sizeOf34 w⟩) (hm := z2) (hi := z2)) (k := ?_)
 refine Xa ?_
 have hle4 := o_s.le'
 have hld5 : (s.drop j.toNat).length = s.length - j.toNat := List.length_drop
 refine Aw (Fw (n := s.length) (c := s_c) (i := j) j.toNat (s.drop j.toNat).length runUnderlying49 sizeOf34 (hlo := z3) (hnc := Ru) (hm := z5)) (k := ?_)
 refine aI (n := (s.take i.toNat).length) (m := (s.drop j.toNat).length) ((s.take i.toNat) ++ (s.drop j.toNat)) rfl Vk underlying49 Ck (o_s.take Ck i.toNat) q0 (Bp.off (o_s.slj Ck (by intro p hp; first | exact hp | (simp [hp]; done))) j.toNat s_c Ru) Ri (k := fun Bx2 hox2 => ?_)
 refine Ov ?_
 refine My (nA nE) ?_
 refine Z0 ?_
 refine Pk ?_
 refine Zh ?_
 refine Cg ?_
 have hle6 := hox2.le'
 refine Af (aG (n := ((s.take i.toNat) ++ (s.drop j.toNat)).length) (c := s_c) (i := (((((s.take i.toNat) ++ (s.drop j.toNat)).length) : Nat) : Int)) (i2 := ((s.length : Nat) : Int)) (((s.take i.toNat) ++ (s.drop j.toNat)).length) s.length (s.length - (((s.take i.toNat) ++ (s.drop j.toNat)).length)) runUnderlying49 sizeOf34 (hlo := z3) (hhi := z3) (hm := rfl)) (k := ?_)
 refine aH (dn := (s.length - (((s.take i.toNat) ++ (s.drop j.toNat)).length))) (x0 := default) (((s.take i.toNat) ++ (s.drop j.toNat)).length) Vk zeroValue34 rfl underlying49 Ck hox2 q0 Ri Ri (kk := fun Bx3 hox3 => ?_)
 refine Pm ?_
 refine Z6 ?_
 refine Ab results173 z1 (fun w1 hw1 => ?_)
 have hcan0 : ((s.take i.toNat) ++ (s.drop j.toNat)) = (delL s i.toNat j.toNat) := by rfl
 have hlen0 : ((s.take i.toNat) ++ (s.drop j.toNat)).length = (delL s i.toNat j.toNat).length := by first | (rw [← hcan0]; done) | (rw [← hcan0]; first | rfl | (simp; done) | (simp only [List.length_append, List.length_take, List.length_drop, List.length_set, List.length_replicate, List.length_cons, List.length_nil, List.length_map, Cq, Cp]; omega) | (simp; omega))
 exact ⟨s_a, s_c, Bx3, kZ, ((hw1.perm (List.Perm.refl _)).tr_out.sub z47), (hcan0 ▸ hox3)⟩

theorem iI (w : World) {r : Bf} : Hn Tryz.prog 132 [(Value.agg [(Value.bool r.allow), (vi r.pfx.addr), (vi r.pfx.bits), (vi r.prt.lo), (vi r.prt.hi)].toArray)] w (Value.bool (Ke r)) := by
 have hF := Is.refl (Ke r)
 refine enter func132 ntmps132 (h := ?_)
 refine Z2 ?_
 refine Ah Ag Vf (k := fun r1 hr1 => ?_)
 refine Jr ?_
 refine Af (Ai nD) (k := ?_)
 refine Af (Ai sA) (k := ?_)
 refine Af (Dq isAgg30 sizeOf30) (k := ?_)
 refine Fu (Ad call153) (fun w1 hw1 => vI w1 (p := r.pfx)) (k := ?_)
 refine Cg ?_
 refine Di 7 rfl (fun hq1 => ?_) (fun hq1 => ?_)
 rotate_left
 ·refine Ae 4 rfl ?_
  refine Ky ?_
  refine Ab results132 z1 (fun w1 hw1 => ?_)
  exact ⟨(rq (hF.f hq1)), hw1.ext_out⟩
 have hfhq1 := B8 hq1
 refine Bb (Ai nD) (k := ?_)
 refine Bb (Ai sB) (k := ?_)
 refine Bb (Dq isAgg32 sizeOf32) (k := ?_)
 refine Ih (Ad call154) (fun w1 hw1 => vJ w1 (p := r.prt)) (k := ?_)
 refine Vv ?_
 refine Ab results132 z1 (fun w1 hw1 => ?_)
 exact ⟨(rq (hF.t hq1)), hw1.ext_out⟩

theorem aN (w : World) {l_a : Option Addr} {l_c : Nat} {l : List Bf} (h_l : Sl w Et 5 l_a l) (n_l : l.length ≤ 1000) : Hn Tryz.prog 93 [(vs l_a l.length l_c)] w (Value.bool (Ik l)) := by
 have hF := Is.refl (Ik l)
 refine enter func93 ntmps93 (h := ?_)
 refine Ut ?_
 refine P5 ?_
 refine Af Pt (k := ?_)
 refine Cg ?_
 refine Ao 6 rfl (fun hq1 => ?_) (fun hq1 => ?_)
 rotate_left
 ·refine Ae 3 rfl ?_
  refine Ky ?_
  refine Ab results93 z1 (fun w1 hw1 => ?_)
  exact ⟨(rq (hF.neg hq1)), hw1.ext_out⟩
 refine Hf ?_
 refine Y6 Ag (Eb (l := [_]) runUnderlying212 sizeOf187 zeroValue187) (k := fun r1 hr1 => ?_)
 refine bY (args := [_, _]) (Ad call131) func131 ntmps131 ?_
 refine Ig ?_
 refine Zh ?_
 refine Lq ?_
 refine Dr (σ1 := Nat) (σ2 := Nat) (fun n_2 x_1 => ((r1, oc [(Value.func (.func 132) [].toArray [].toArray)] 187) :: [])) (fun n_2 x_1 => [(1, (vs (some ⟨r1, 0, none⟩) 1 1)), (4, (Value.bool false)), (9, (vs l_a l.length l_c)), (10, (vi ((l.length : Nat) : Int))), (11, (vi ((x_1 : Nat) : Int)))]) (fun n_2 x_1 => l.length - x_1 < n_2 ∧ Is (Ht l (l.length + 1) 0) (Ht l n_2 x_1) ∧ x_1 ≤ l.length) (fun n_2 x_1 => n_2) (l.length + 1) 0 ?_ se (List.Perm.refl _) ?_
 ·exact ⟨Nat.lt_succ_self _, Is.refl _, Kh⟩
 ·rintro (_ | n_2) x_1 ⟨hm4, hF3, hi5⟩
  ·omega
  refine Zd ?_
  refine Au rfl (fun hq2 => ?_) (fun hq2 => ?_)
  rotate_left
  ·refine Ca ?_
   refine La ?_
   refine Cc results131 z1 ?_
   refine Vv ?_
   refine Ab results93 z1 (fun w1 hw1 => ?_)
   exact ⟨(rq ((hF.pos hq1).ok1 (hF3.neg hq2))), hw1.ext_out⟩
  refine xC ?_
  refine Af (Cb (n := l.length) runUnderlying49 sizeOf34 x_1 bP (gD z3) Jv) (k := ?_)
  refine Af (Cn isAgg34 sizeOf34 x_1 bP (gD z3)) (k := ?_)
  refine Ah Ag (Dn (l := [_, _, _, _, _]) zeroValue34) (k := fun r2 hr2 => ?_)
  refine Gw (Bt (l' := [_, _, _, _, _]) sizeOf34) (k := ?_)
  refine Pm ?_
  refine Af (Ei runUnderlying212) (k := ?_)
  refine Lq ?_
  refine Lj ?_
  refine K8 ?_
  refine Af (Hg runUnderlying212 sizeOf187 0) (k := ?_)
  refine Af (Bv isAgg187) (k := ?_)
  refine Jq ?_
  refine Af (Dq isAgg34 sizeOf34) (k := ?_)
  refine Af (Ef (cs := [_, _, _, _, _]) zeroValue189 E9) (k := ?_)
  refine Fu (Ad call132) (fun w1 hw1 => iI w1 (r := (l.getD x_1 default))) (k := ?_)
  refine Rj ?_
  refine Ct rfl (fun hq3 => ?_) (fun hq3 => ?_)
  ·refine Bg ?_
   refine Cs ?_
   refine Z6 ?_
   refine Z41 ?_
   refine Cy ?_
   refine lB ?_
   refine Cc results131 z1 ?_
   refine Vv ?_
   refine Ab results93 z1 (fun w1 hw1 => ?_)
   exact ⟨(rq ((hF.pos hq1).er1 ((hF3.pos hq2).t hq3))), hw1.ext_out⟩
  refine Xi ?_
  refine Z40 ?_
  refine jC ?_
  refine Ci _ (qa q0) ?_
  refine Cj _ (List.Sublist.cons_cons _ Nr) ?_
  exact Dp n_2 (x_1 + 1) ⟨by omega, ((hF3.pos hq2).f hq3), z2⟩ (Nat.lt_succ_self _) se (List.Perm.refl _)

theorem kM (w : World) {l_a : Option Addr} {l_c : Nat} {ea0 : Addr} {ea1 : Addr} {ea2 : Addr} {ea3 : Addr} {l : List Bf} {at_ : Int} {r : Bf} (h_l : Sl w Et 5 l_a l) (n_l : l.length ≤ 1000) (hG : Gl w) (hE : Er w ea0 ea1 ea2 ea3) : Calls Tryz.prog 161 (List.toArray [(vs l_a l.length l_c), (vi at_), (Value.agg [(Value.bool r.allow), (vi r.pfx.addr), (vi r.pfx.bits), (vi r.prt.lo), (vi r.prt.hi)].toArray)]) w fun e w2 => ∃ a1 : Option Addr, ∃ c1 : Nat, ∃ B1 : Aj, e = .returned (Value.tuple [(vs a1 ((De l at_ r).1.length) c1), (vi ((De l at_ r).2))].toArray) ∧ Dh w w2 B1 ∧ Bi Et 5 34 a1 c1 B1 (De l at_ r).1 ∧ (De l at_ r).1.length ≤ 1000 := by
 have hF := Is.refl (De l at_ r)
 refine enter func161 ntmps161 (h := ?_)
 refine Z2 ?_
 refine Ah Ag Vf (k := fun r1 hr1 => ?_)
 refine Sb ?_
 refine Z1 ?_
 refine AP6 ?_
 refine oU ?_
 refine Ct rfl (fun hq1 => ?_) (fun hq1 => ?_)
 ·refine Bg ?_
  refine Cs ?_
  obtain ⟨Thgl2, fhgl2, hgl2⟩ := hE.v0
  refine Af (Dv isAgg78 hgl2) (k := ?_)
  refine lG ?_
  refine Zf ?_
  obtain ⟨Thgl3, fhgl3, hgl3⟩ := hE.v0
  refine AO2 ?_
  refine Z1 ?_
  refine Zc ?_
  refine Jt ?_
  refine lI ?_
  refine Jt ?_
  refine Ab results161 (Fb.tmp rfl z1) (fun w1 hw1 => ?_)
  exact ⟨none, 0, [], (rq (hF.t hq1)), (hw1.fresh_out.sub Nr), (ro (hF.t hq1)), (by rw [(hF.t hq1).eq]; first | omega | (simp; done) | (rw [Gq z2]; omega))⟩
 refine Z2 ?_
 refine Af (Dq isAgg34 sizeOf34) (k := ?_)
 refine Af (Ef (cs := [_, _, _, _, _]) zeroValue189 E9) (k := ?_)
 refine Fu (Ad call132) (fun w1 hw1 => iI w1 (r := r)) (k := ?_)
 refine oU ?_
 refine Ct rfl (fun hq4 => ?_) (fun hq4 => ?_)
 ·refine Bg ?_
  refine Cs ?_
  obtain ⟨Thgl5, fhgl5, hgl5⟩ := hE.v1
  refine Af (Dv isAgg78 hgl5) (k := ?_)
  refine lG ?_
  refine Zf ?_
  obtain ⟨Thgl6, fhgl6, hgl6⟩ := hE.v0
  refine Af (Dv isAgg78 hgl6) (k := ?_)
  refine Fu (args := [(Value.iface 240 (.pointer (some ea1))), (Value.iface 240 (.pointer (some ea0)))]) (Ad call176) (fun w1 hw1 => Wh w1 hE.n1_0 (hE.ext hw1.ext_out).b1 (hE.ext hw1.ext_out).b0) (k := ?_)
  refine Z1 ?_
  refine cS ?_
  obtain ⟨Thgl7, fhgl7, hgl7⟩ := hE.v1
  refine Af (Dv isAgg78 hgl7) (k := ?_)
  refine Fu (args := [(Value.iface 240 (.pointer (some ea1))), (Value.iface 240 (.pointer (some ea1)))]) (Ad call176) (fun w1 hw1 => Zn w1) (k := ?_)
  refine Z1 ?_
  refine Zc ?_
  refine Jt ?_
  refine lI ?_
  refine Jt ?_
  refine Ab results161 (Fb.tmp rfl z1) (fun w1 hw1 => ?_)
  exact ⟨none, 0, [], (rq ((hF.f hq1).t hq4)), (hw1.fresh_out.sub Nr), (ro ((hF.f hq1).t hq4)), (by rw [((hF.f hq1).t hq4).eq]; first | omega | (simp; done) | (rw [Gq z2]; omega))⟩
 refine Z4 ?_
 refine Rx ?_
 refine Ao 24 rfl (fun hq8 => ?_) (fun hq8 => ?_)
 ·refine Ae 4 rfl ?_
  refine Uu ?_
  refine tX ?_
  refine Zc ?_
  obtain ⟨Thgl9, fhgl9, hgl9⟩ := hE.v2
  refine Af (Dv isAgg78 hgl9) (k := ?_)
  refine lG ?_
  refine Zf ?_
  obtain ⟨Thgl10, fhgl10, hgl10⟩ := hE.v0
  refine Af (Dv isAgg78 hgl10) (k := ?_)
  refine xI ?_
  refine cS ?_
  obtain ⟨Thgl11, fhgl11, hgl11⟩ := hE.v1
  refine Af (Dv isAgg78 hgl11) (k := ?_)
  refine xJ ?_
  refine cS ?_
  obtain ⟨Thgl12, fhgl12, hgl12⟩ := hE.v2
  refine Af (Dv isAgg78 hgl12) (k := ?_)
  refine xK ?_
  refine Zc ?_
  refine Jt ?_
  refine lI ?_
  refine Jt ?_
  refine Ab results161 (Fb.tmp rfl z1) (fun w1 hw1 => ?_)
  exact ⟨none, 0, [], (rq (((hF.f hq1).f hq4).pos hq8)), (hw1.fresh_out.sub Nr), (ro (((hF.f hq1).f hq4).pos hq8)), (by rw [(((hF.f hq1).f hq4).pos hq8).eq]; first | omega | (simp; done) | (rw [Gq z2]; omega))⟩
 refine cN ?_
 refine Bb (Ei runUnderlying49) (k := ?_)
 refine tY ?_
 refine Ao 30 rfl (fun hq13 => ?_) (fun hq13 => ?_)
 ·refine Ae 3 rfl ?_
  refine tX ?_
  refine Zc ?_
  obtain ⟨Thgl14, fhgl14, hgl14⟩ := hE.v2
  refine Af (Dv isAgg78 hgl14) (k := ?_)
  refine lG ?_
  refine Zf ?_
  obtain ⟨Thgl15, fhgl15, hgl15⟩ := hE.v0
  refine Af (Dv isAgg78 hgl15) (k := ?_)
  refine xI ?_
  refine cS ?_
  obtain ⟨Thgl16, fhgl16, hgl16⟩ := hE.v1
  refine Af (Dv isAgg78 hgl16) (k := ?_)
  refine xJ ?_
  refine cS ?_
  obtain ⟨Thgl17, fhgl17, hgl17⟩ := hE.v2
  refine Af (Dv isAgg78 hgl17) (k := ?_)
  refine xK ?_
  refine Zc ?_
  refine Jt ?_
  refine lI ?_
  refine Jt ?_
  refine Ab results161 (Fb.tmp rfl z1) (fun w1 hw1 => ?_)
  exact ⟨none, 0, [], (rq ((((hF.f hq1).f hq4).neg hq8).pos hq13)), (hw1.fresh_out.sub Nr), (ro ((((hF.f hq1).f hq4).neg hq8).pos hq13)), (by rw [((((hF.f hq1).f hq4).neg hq8).pos hq13).eq]; first | omega | (simp; done) | (rw [Gq z2]; omega))⟩
 refine Hf ?_
 refine Bb (Ei runUnderlying49) (k := ?_)
 refine Bb Ki (k := ?_)
 refine Af Hy (k := ?_)
 refine Z1 ?_
 refine Au rfl (fun hq18 => ?_) (fun hq18 => ?_)
 rotate_left
 ·refine Bq ?_
  refine Xb ?_
  refine Bg ?_
  refine Xo (V := []) Da 8 z4 ?_
  refine AE7 ?_
  refine Ez 3 rfl z4 (Dq isAgg34 sizeOf34) (k := ?_)
  refine Cr [1, 4] z4 rfl (List.forall_mem_cons.2 ⟨?_, (List.forall_mem_cons.2 ⟨?_, nofun⟩)⟩)
  ·skip
   refine AQ1 ?_
   rintro w1_41 e1_41 w2_41 hw1_41 ⟨a1_41, c1_41, B1_41, he_41, hf_41, ho1_41⟩
   refine ⟨_, _, _, he_41, hf_41, rfl, ?_⟩
   refine Cr [4] z4 rfl (List.forall_mem_cons.2 ⟨?_, nofun⟩)
   ·skip
    refine Lf rfl Ag (Eb (l := [_, _, _, _, _]) runUnderlying49 sizeOf34 zeroValue34) (k := fun r102 hr102 => ?_)
    refine Cr [5] z4 rfl (List.forall_mem_cons.2 ⟨?_, nofun⟩)
    ·skip
     refine AQ2 ?_
     rintro w1_121 e1_121 w2_121 hw1_121 ⟨a1_121, c1_121, B1_121, he_121, hf_121, ho1_121⟩
     refine ⟨_, (B1_121 ++ []), he_121, by simpa using ((hw1_121.perm (List.Perm.of_eq (by simp only [List.append_assoc, List.nil_append]))).tr hf_121), ?_⟩
     refine Ez 6 rfl z4 Fj (k := ?_)
     refine Ez 7 rfl z4 Fj (k := ?_)
     refine P9 ?_
     refine rO ?_
     refine Ab results161 (Fb.tmp rfl z1) (fun w1 hw1 => ?_)
     exact ⟨a1_121, c1_121, B1_121, (rq (((((hF.f hq1).f hq4).neg hq8).neg hq13).neg hq18)), (Ba (L := B1_121) (hw1.perm (List.Perm.refl _)) rfl.symm), (by rw [(((((hF.f hq1).f hq4).neg hq8).neg hq13).neg hq18).eq]; exact ho1_121), (by rw [(((((hF.f hq1).f hq4).neg hq8).neg hq13).neg hq18).eq]; first | omega | (simp; done) | (rw [Gq z2]; omega))⟩
  ·skip
   refine Lf rfl Ag (Eb (l := [_, _, _, _, _]) runUnderlying49 sizeOf34 zeroValue34) (k := fun r102 hr102 => ?_)
   refine Cr [1] z4 rfl (List.forall_mem_cons.2 ⟨?_, nofun⟩)
   ·skip
    refine AQ1 ?_
    rintro w1_41 e1_41 w2_41 hw1_41 ⟨a1_41, c1_41, B1_41, he_41, hf_41, ho1_41⟩
    refine ⟨_, _, _, he_41, hf_41, rfl, ?_⟩
    refine Cr [5] z4 rfl (List.forall_mem_cons.2 ⟨?_, nofun⟩)
    ·skip
     refine AQ2 ?_
     rintro w1_121 e1_121 w2_121 hw1_121 ⟨a1_121, c1_121, B1_121, he_121, hf_121, ho1_121⟩
     refine ⟨_, (B1_121 ++ []), he_121, by simpa using ((hw1_121.perm (List.Perm.of_eq (by simp only [List.append_assoc, List.nil_append]))).tr hf_121), ?_⟩
     refine Ez 6 rfl z4 Fj (k := ?_)
     refine Ez 7 rfl z4 Fj (k := ?_)
     refine P9 ?_
     refine rO ?_
     refine Ab results161 (Fb.tmp rfl z1) (fun w1 hw1 => ?_)
     exact ⟨a1_121, c1_121, B1_121, (rq (((((hF.f hq1).f hq4).neg hq8).neg hq13).neg hq18)), (Ba (L := B1_121) (hw1.perm (List.Perm.refl _)) rfl.symm), (by rw [(((((hF.f hq1).f hq4).neg hq8).neg hq13).neg hq18).eq]; exact ho1_121), (by rw [(((((hF.f hq1).f hq4).neg hq8).neg hq13).neg hq18).eq]; first | omega | (simp; done) | (rw [Gq z2]; omega))⟩
 refine Z2 ?_
 obtain ⟨Thgl19, fhgl19, hgl19⟩ := hE.v2
 refine Af (Dv isAgg78 hgl19) (k := ?_)
 refine lG ?_
 refine Zf ?_
 obtain ⟨Thgl20, fhgl20, hgl20⟩ := hE.v0
 refine Af (Dv isAgg78 hgl20) (k := ?_)
 refine xI ?_
 refine cS ?_
 obtain ⟨Thgl21, fhgl21, hgl21⟩ := hE.v1
 refine Af (Dv isAgg78 hgl21) (k := ?_)
 refine xJ ?_
 refine cS ?_
 obtain ⟨Thgl22, fhgl22, hgl22⟩ := hE.v2
 refine Af (Dv isAgg78 hgl22) (k := ?_)
 refine xK ?_
 refine Zc ?_
 refine Jt ?_
 refine lI ?_
 refine Jt ?_
 refine Ab results161 (Fb.tmp rfl z1) (fun w1 hw1 => ?_)
 exact ⟨none, 0, [], (rq (((((hF.f hq1).f hq4).neg hq8).neg hq13).pos hq18)), (hw1.fresh_out.sub Nr), (ro (((((hF.f hq1).f hq4).neg hq8).neg hq13).pos hq18)), (by rw [(((((hF.f hq1).f hq4).neg hq8).neg hq13).pos hq18).eq]; first | omega | (simp; done) | (rw [Gq z2]; omega))⟩

theorem kN (w : World) {l_a : Option Addr} {l_c : Nat} {ea0 : Addr} {ea1 : Addr} {ea2 : Addr} {ea3 : Addr} {l : List Bf} {at_ : Int} (h_l : Sl w Et 5 l_a l) (n_l : l.length ≤ 1000) (hG : Gl w) (hE : Er w ea0 ea1 ea2 ea3) : Calls Tryz.prog 162 (List.toArray [(vs l_a l.length l_c), (vi at_)]) w fun e w2 => ∃ a1 : Option Addr, ∃ c1 : Nat, ∃ B1 : Aj, e = .returned (Value.tuple [(vs a1 ((Dk l at_).1.length) c1), (vi ((Dk l at_).2))].toArray) ∧ Dh w w2 B1 ∧ Bi Et 5 34 a1 c1 B1 (Dk l at_).1 ∧ (Dk l at_).1.length ≤ 1000 := by
 have hF := Is.refl (Dk l at_)
 refine enter func162 ntmps162 (h := ?_)
 refine Z2 ?_
 refine Sb ?_
 refine Z1 ?_
 refine AP6 ?_
 refine oU ?_
 refine Ct rfl (fun hq1 => ?_) (fun hq1 => ?_)
 ·refine Bg ?_
  refine Cs ?_
  obtain ⟨Thgl2, fhgl2, hgl2⟩ := hE.v0
  refine Af (Dv isAgg78 hgl2) (k := ?_)
  refine lG ?_
  refine Zf ?_
  obtain ⟨Thgl3, fhgl3, hgl3⟩ := hE.v0
  refine AO2 ?_
  refine Z1 ?_
  refine Zc ?_
  refine Jt ?_
  refine lI ?_
  refine Jt ?_
  refine Ab results162 (Fb.tmp rfl z1) (fun w1 hw1 => ?_)
  exact ⟨none, 0, [], (rq (hF.t hq1)), (hw1.fresh_out.sub Nr), (ro (hF.t hq1)), (by rw [(hF.t hq1).eq]; first | omega | (simp; done) | (rw [Gr z2 z2]; omega))⟩
 refine Z4 ?_
 refine Rx ?_
 refine Ao 15 rfl (fun hq4 => ?_) (fun hq4 => ?_)
 ·refine Ae 4 rfl ?_
  refine tX ?_
  refine Zc ?_
  obtain ⟨Thgl5, fhgl5, hgl5⟩ := hE.v2
  refine Af (Dv isAgg78 hgl5) (k := ?_)
  refine lG ?_
  refine Zf ?_
  obtain ⟨Thgl6, fhgl6, hgl6⟩ := hE.v0
  refine Af (Dv isAgg78 hgl6) (k := ?_)
  refine xI ?_
  refine cS ?_
  obtain ⟨Thgl7, fhgl7, hgl7⟩ := hE.v1
  refine Af (Dv isAgg78 hgl7) (k := ?_)
  refine xJ ?_
  refine cS ?_
  obtain ⟨Thgl8, fhgl8, hgl8⟩ := hE.v2
  refine Af (Dv isAgg78 hgl8) (k := ?_)
  refine xK ?_
  refine Zc ?_
  refine Jt ?_
  refine lI ?_
  refine Jt ?_
  refine Ab results162 (Fb.tmp rfl z1) (fun w1 hw1 => ?_)
  exact ⟨none, 0, [], (rq ((hF.f hq1).pos hq4)), (hw1.fresh_out.sub Nr), (ro ((hF.f hq1).pos hq4)), (by rw [((hF.f hq1).pos hq4).eq]; first | omega | (simp; done) | (rw [Gr z2 z2]; omega))⟩
 refine cN ?_
 refine Bb (Ei runUnderlying49) (k := ?_)
 refine Bb Ki (k := ?_)
 refine Af Hy (k := ?_)
 refine Z1 ?_
 refine Au rfl (fun hq9 => ?_) (fun hq9 => ?_)
 rotate_left
 ·refine Bq ?_
  refine Xb ?_
  refine Z4 ?_
  refine Gy (Ad call82) (fun w1 hw1 => Wp w1 (s := l) (h_s := (Bp.of_base h_l) w1 hw1) (n_s := z6)) (k := ?_)
  rintro w1_1 e1_1 w2_1 hw1_1 ⟨a1_1, c1_1, B1_1, he_1, hf_1, ho1_1⟩
  refine ⟨_, _, he_1, hw1_1.fresh hf_1, ?_⟩
  refine Cg ?_
  refine J8 ?_
  refine Gy (Ad call173) (fun w1 hw1 => nG w1 (s := l) (i := at_) (j := (at_ + 1)) (o_s := ho1_1) (b_s := fun p hp => hw1.own p (by first | exact hp | (simp [hp]; done))) (n_s := z6) (hi := z6)) (k := ?_)
  rintro w1_2 e1_2 w2_2 hw1_2 ⟨a1_2, c1_2, B1_2, he_2, hf_2, ho1_2⟩
  refine ⟨_, _, he_2, (hw1_2.perm q0).tr hf_2, ?_⟩
  refine Sb ?_
  refine Z6 ?_
  refine Ab results162 (Fb.tmp rfl z1) (fun w1 hw1 => ?_)
  exact ⟨a1_2, c1_2, B1_2, (rq (((hF.f hq1).neg hq4).neg hq9)), (Ba (L := B1_2) (hw1.perm (List.Perm.refl _)) rfl.symm), (by rw [(((hF.f hq1).neg hq4).neg hq9).eq]; exact ho1_2), (by rw [(((hF.f hq1).neg hq4).neg hq9).eq]; first | omega | (simp; done) | (rw [Gr z2 z2]; omega))⟩
 refine Z2 ?_
 obtain ⟨Thgl10, fhgl10, hgl10⟩ := hE.v2
 refine Af (Dv isAgg78 hgl10) (k := ?_)
 refine lG ?_
 refine Zf ?_
 obtain ⟨Thgl11, fhgl11, hgl11⟩ := hE.v0
 refine Af (Dv isAgg78 hgl11) (k := ?_)
 refine xI ?_
 refine cS ?_
 obtain ⟨Thgl12, fhgl12, hgl12⟩ := hE.v1
 refine Af (Dv isAgg78 hgl12) (k := ?_)
 refine xJ ?_
 refine cS ?_
 obtain ⟨Thgl13, fhgl13, hgl13⟩ := hE.v2
 refine Af (Dv isAgg78 hgl13) (k := ?_)
 refine xK ?_
 refine Zc ?_
 refine Jt ?_
 refine lI ?_
 refine Jt ?_
 refine Ab results162 (Fb.tmp rfl z1) (fun w1 hw1 => ?_)
 exact ⟨none, 0, [], (rq (((hF.f hq1).neg hq4).pos hq9)), (hw1.fresh_out.sub Nr), (ro (((hF.f hq1).neg hq4).pos hq9)), (by rw [(((hF.f hq1).neg hq4).pos hq9).eq]; first | omega | (simp; done) | (rw [Gr z2 z2]; omega))⟩

end Go.Proofs.YtopjaeoklkpcpaaGreatDoor.Jd

namespace Go.Proofs.YtopjaeoklkpcpaaGreatDoor.Jd
open Go.Proofs.Tryz
open Go.Proofs
open Go.RowKit (Below)
set_option maxRecDepth 100000
set_option maxHeartbeats 8000000
set_option linter.unusedVariables false
set_option linter.unusedSimpArgs false
def Fq (x : Bw) : List Value := [vi x.id, Value.string (bs x.key), vi x.frm, vi x.to]
theorem Ed : Dj Fq 4 := ⟨by omega, fun _ => rfl, fun _ => rfl⟩
theorem Kw : Bo Tryz.prog 62 0 0 := fun r k w => by simp [Instr.fieldAt, Instr.sureAddr, fieldPlace, Bc]
theorem Ug : Bo Tryz.prog 62 1 1 := fun r k w => by simp [Instr.fieldAt, Instr.sureAddr, fieldPlace, Bc]
theorem Yk : Bo Tryz.prog 62 2 2 := fun r k w => by simp [Instr.fieldAt, Instr.sureAddr, fieldPlace, Bc]
theorem Yl : Bo Tryz.prog 62 3 3 := fun r k w => by simp [Instr.fieldAt, Instr.sureAddr, fieldPlace, Bc]
theorem Qd : Bo Tryz.prog 146 0 0 := fun r k w => by simp [Instr.fieldAt, Instr.sureAddr, fieldPlace, Bc]
theorem F0 : Bo Tryz.prog 216 0 0 := fun r k w => by simp [Instr.fieldAt, Instr.sureAddr, fieldPlace, Bc]
theorem AA5 : Hq Tryz.prog 62 [(0, 1), (1, 1), (2, 1), (3, 1)] := ⟨_, fun w => runUnderlying62 w, fun w => by simp⟩
theorem AI3 : Hq Tryz.prog 146 [(0, 4)] := ⟨_, fun w => runUnderlying146 w, fun w => by simp⟩
theorem AI4 : Hq Tryz.prog 216 [(0, 1)] := ⟨_, fun w => runUnderlying216 w, fun w => by simp⟩
theorem sC : Ty Tryz.prog 62 4 40 (Value.agg [(vi 0), (vt ([] : Ap)), (vi 0), (vi 0)].toArray) := ⟨⟨Tryz.t62, by kernel_rfl, rfl, rfl, rfl⟩, rfl⟩
theorem iJ (w : World) {key : Ap} : Hn Tryz.prog 134 [(vt key)] w (Value.bool (Qn key)) := by
 have hF := Is.refl (Qn key)
 refine enter func134 ntmps134 (h := ?_)
 refine Ut ?_
 refine yH ?_
 refine cP ?_
 refine Ao 6 rfl (fun hq1 => ?_) (fun hq1 => ?_)
 rotate_left
 ·refine Ae 3 rfl ?_
  refine Ky ?_
  refine Ab results134 z1 (fun w1 hw1 => ?_)
  exact ⟨(rq (hF.neg hq1)), hw1.ext_out⟩
 refine O0 ?_
 refine cW ?_
 refine Vv ?_
 refine Ab results134 z1 (fun w1 hw1 => ?_)
 exact ⟨(rq (hF.pos hq1)), hw1.ext_out⟩

theorem pY (w : World) {s_a : Option Addr} {s_c : Nat} {s : List Bw} (h_s : Sl w Fq 4 s_a s) (n_s : s.length ≤ 1000000) : Calls Tryz.prog 83 (List.toArray [(vs s_a s.length s_c)]) w fun e w2 => ∃ a1 : Option Addr, ∃ c1 : Nat, ∃ B1 : Aj, e = .returned (vs a1 s.length c1) ∧ Dh w w2 B1 ∧ Bi Fq 4 62 a1 c1 B1 s := by
 have hF := Is.refl s
 refine enter func83 ntmps83 (h := ?_)
 refine Ig ?_
 refine Af (Xs runUnderlying50) (k := ?_)
 refine Z0 ?_
 refine Ct rfl (fun hq1 => ?_) (fun hq1 => ?_)
 ·refine Bg ?_
  refine Kz ?_
  refine Ab results83 z1 (fun w1 hw1 => ?_)
  have hcan0 : ([] : List Bw) = s := by (first | rfl | (exact He h_s Ey))
  have hlen0 : 0 = s.length := by first | (rw [← hcan0]; done) | (rw [← hcan0]; first | rfl | (simp; done) | (simp only [List.length_append, List.length_take, List.length_drop, List.length_set, List.length_replicate, List.length_cons, List.length_nil, List.length_map, Cq, Cp]; omega) | (simp; omega))
  exact ⟨none, 0, [], kZ, (hw1.fresh_out.sub Nr), (hcan0 ▸ Bi.nil)⟩
 refine Rr ?_
 refine Ah Ag (Eb (l := []) runUnderlying50 sizeOf62 zeroValue62) (k := fun r1 hr1 => ?_)
 refine Cg ?_
 refine Az s (List.nil_append _) sC underlying50 Ed Bi.nil (List.Perm.refl _) (Bp.of_base h_s) ⟨by omega, by omega⟩ (n := 0) (m := s.length) (k := fun ax1 cx1 Bx1 hox1 => ?_)
 refine Z6 ?_
 refine Ab results83 z1 (fun w1 hw1 => ?_)
 have hcan0 : s = s := by (first | rfl | (exact He h_s Ey))
 have hlen0 : s.length = s.length := by first | (rw [← hcan0]; done) | (rw [← hcan0]; first | rfl | (simp; done) | (simp only [List.length_append, List.length_take, List.length_drop, List.length_set, List.length_replicate, List.length_cons, List.length_nil, List.length_map, Cq, Cp]; omega) | (simp; omega))
 exact ⟨ax1, cx1, Bx1, kZ, (Ba (L := Bx1) (hw1.perm (List.Perm.refl _)) rfl.symm), (hcan0 ▸ hox1)⟩

theorem Ym (w : World) {n_ : Int} {least : Int} {most : Int} : Hn Tryz.prog 133 [(vi n_), (vi least), (vi most)] w (Value.bool (Lw n_ least most)) := by
 have hF := Is.refl (Lw n_ least most)
 refine enter func133 ntmps133 (h := ?_)
 refine Ut ?_
 refine Pk ?_
 refine cP ?_
 refine Ao 10 rfl (fun hq1 => ?_) (fun hq1 => ?_)
 rotate_left
 ·refine Ae 3 rfl ?_
  refine Ky ?_
  refine Ab results133 z1 (fun w1 hw1 => ?_)
  exact ⟨(rq (hF.neg hq1)), hw1.ext_out⟩
 refine cN ?_
 refine cW ?_
 refine Vv ?_
 refine Ab results133 z1 (fun w1 hw1 => ?_)
 exact ⟨(rq (hF.pos hq1)), hw1.ext_out⟩

theorem F1 (w : World) {c : Bw} : Hn Tryz.prog 95 [(Value.agg [(vi c.id), (vt c.key), (vi c.frm), (vi c.to)].toArray)] w (Value.bool (aJ c)) := by
 have hF := Is.refl (aJ c)
 refine enter func95 ntmps95 (h := ?_)
 refine Z2 ?_
 refine Ah Ag (Hi (l := [_, _, _, _])) (k := fun r1 hr1 => ?_)
 refine Jr ?_
 refine Af (Ai Qd) (k := ?_)
 refine Af (Ai Kw) (k := ?_)
 refine Hx ?_
 refine Fu (Ad call133) (fun w1 hw1 => Ym w1 (n_ := c.id) (least := 1) (most := 1000000000)) (k := ?_)
 refine Z6 ?_
 refine Ab results95 z1 (fun w1 hw1 => ?_)
 exact ⟨(rq hF), hw1.ext_out⟩

theorem vK (w : World) {c : Bw} : Hn Tryz.prog 96 [(Value.agg [(vi c.id), (vt c.key), (vi c.frm), (vi c.to)].toArray)] w (Value.bool (St c)) := by
 have hF := Is.refl (St c)
 refine enter func96 ntmps96 (h := ?_)
 refine Z2 ?_
 refine Ah Ag (Hi (l := [_, _, _, _])) (k := fun r1 hr1 => ?_)
 refine Jr ?_
 refine Af (Ai Qd) (k := ?_)
 refine Af (Ai Ug) (k := ?_)
 refine jR ?_
 refine Fu (Ad call134) (fun w1 hw1 => iJ w1 (key := c.key)) (k := ?_)
 refine Z6 ?_
 refine Ab results96 z1 (fun w1 hw1 => ?_)
 exact ⟨(rq hF), hw1.ext_out⟩

theorem pZ (w : World) {c : Bw} : Hn Tryz.prog 97 [(Value.agg [(vi c.id), (vt c.key), (vi c.frm), (vi c.to)].toArray)] w (Value.bool (Oe c)) := by
 have hF := Is.refl (Oe c)
 refine enter func97 ntmps97 (h := ?_)
 refine Z2 ?_
 refine Ah Ag (Hi (l := [_, _, _, _])) (k := fun r1 hr1 => ?_)
 refine Jr ?_
 refine Af (Ai Qd) (k := ?_)
 refine Af (Ai Yk) (k := ?_)
 refine Hx ?_
 refine cP ?_
 refine Ao 7 rfl (fun hq1 => ?_) (fun hq1 => ?_)
 rotate_left
 ·refine Ae 7 rfl ?_
  refine Rv ?_
  refine Ae 4 rfl ?_
  refine Ky ?_
  refine Ab results97 z1 (fun w1 hw1 => ?_)
  exact ⟨(rq (hF.neg hq1)), hw1.ext_out⟩
 refine Bb (Ai Qd) (k := ?_)
 refine Bb (Ai Yk) (k := ?_)
 refine Vz ?_
 refine Bb (Ai Qd) (k := ?_)
 refine Bb (Ai Yl) (k := ?_)
 refine Vz ?_
 refine Bb Ps (k := ?_)
 refine Pj ?_
 refine Ao 16 rfl (fun hq2 => ?_) (fun hq2 => ?_)
 rotate_left
 ·refine Ae 4 rfl ?_
  refine Ky ?_
  refine Ab results97 z1 (fun w1 hw1 => ?_)
  exact ⟨(rq ((hF.pos hq1).neg hq2)), hw1.ext_out⟩
 refine Bb (Ai Qd) (k := ?_)
 refine Bb (Ai Yl) (k := ?_)
 refine yC ?_
 refine Vv ?_
 refine Ab results97 z1 (fun w1 hw1 => ?_)
 exact ⟨(rq ((hF.pos hq1).pos hq2)), hw1.ext_out⟩

theorem iK (w : World) {l_a : Option Addr} {l_c : Nat} {l : List Bw} (h_l : Sl w Fq 4 l_a l) (n_l : l.length ≤ 1000) : Hn Tryz.prog 57 [(vs l_a l.length l_c)] w (Value.bool (Kd l)) := by
 have hF := Is.refl (Kd l)
 refine enter func57 ntmps57 (h := ?_)
 refine cR ?_
 refine Ah Ag hO (k := fun r1 hr1 => ?_)
 refine Sb ?_
 refine Xc ?_
 refine P4 ?_
 refine Ny (σ1 := Nat) (σ2 := Nat) (σ3 := Int) (σ4 := List Int) (σ5 := Array MapEntry) (σ6 := Nat) (fun n_4 x_1 last_2 x_3 x_3e x_3k => ((r1, Obj.map x_3e x_3k) :: [])) (fun n_4 x_1 last_2 x_3 x_3e x_3k => [(0, (vs l_a l.length l_c)), (2, (Value.bool false)), (3, (Value.map (some r1))), (4, (vi last_2)), (8, (vs l_a l.length l_c)), (9, (vi ((l.length : Nat) : Int))), (10, (vi ((x_1 : Nat) : Int)))]) (fun n_4 x_1 last_2 x_3 x_3e x_3k => l.length - x_1 < n_4 ∧ Is (Km l (l.length + 1) 0 0 ([] : List Int)) (Km l n_4 x_1 last_2 x_3) ∧ Na (fun x : Int => vi x) x_3e x_3 ∧ x_1 ≤ l.length) (fun n_4 x_1 last_2 x_3 x_3e x_3k => n_4) (l.length + 1) 0 0 ([] : List Int) (#[]) 0 ?_ se (List.Perm.refl _) ?_
 ·exact ⟨Nat.lt_succ_self _, Is.refl _, Na.nil, Kh⟩
 ·rintro (_ | n_4) x_1 last_2 x_3 x_3e x_3k ⟨hm6, hF5, hx_3, hi7⟩
  ·omega
  refine Zd ?_
  refine Au rfl (fun hq1 => ?_) (fun hq1 => ?_)
  ·refine Bq ?_
   refine Ea ?_
   refine J7 ?_
   refine Z2 ?_
   refine AN5 ?_
   refine Ah Ag z60 (k := fun r2 hr2 => ?_)
   refine lY ?_
   refine Me ?_
   refine Z4 ?_
   refine Af (Ai Kw) (k := ?_)
   refine Hx ?_
   refine Af (Xy (xs := x_3) ((l.getD x_1 default).id) Fs runUnderlying142 runUnderlying3 zeroValue4 hx_3) (k := ?_)
   refine Cg ?_
   refine Ao 18 rfl (fun hq2 => ?_) (fun hq2 => ?_)
   ·refine Ae 4 rfl ?_
    refine Ro ?_
    refine lB ?_
    refine Ab results57 z1 (fun w1 hw1 => ?_)
    exact ⟨(rq (hF.er3 ((hF5.pos hq1).pos hq2))), hw1.ext_out⟩
   refine Bb (Ai Kw) (k := ?_)
   refine Vz ?_
   refine Q0 ?_
   refine Qh ?_
   refine Au rfl (fun hq3 => ?_) (fun hq3 => ?_)
   ·refine Bg ?_
    refine Kz ?_
    refine lB ?_
    refine Ab results57 z1 (fun w1 hw1 => ?_)
    exact ⟨(rq (hF.er3 (((hF5.pos hq1).neg hq2).pos hq3))), hw1.ext_out⟩
   refine aY ?_
   refine Gv _ _ (vp (qa q0) (nC nE)) Da 7 [(true, 0), (true, 1), (true, 2), (true, 3), (true, 4), (false, 5), (true, 6)] z4 ?_
   refine Gu ?_
   refine Aw (Ai Kw) (k := ?_)
   refine Sc ?_
   refine Aw (Ai Kw) (k := ?_)
   refine Sc ?_
   refine S5 (xs := x_3) ((l.getD x_1 default).id) Fs runUnderlying142 runUnderlying3 hx_3 Ey q0 (k := fun em6 km6 hms6 => ?_)
   refine Ov ?_
   refine lH ?_
   refine jC ?_
   refine Cj _ (List.Sublist.cons_cons _ Nr) ?_
   exact Kt n_4 (x_1 + 1) ((l.getD x_1 default).id) (x_3 ++ [((l.getD x_1 default).id)]) em6 km6 ⟨by omega, (((hF5.pos hq1).neg hq2).neg hq3), hms6, z2⟩ (Nat.lt_succ_self _) se (List.Perm.refl _)
  refine Ca ?_
  refine lR ?_
  refine cX ?_
  refine Af Pt (k := ?_)
  refine Cg ?_
  refine Ao 33 rfl (fun hq4 => ?_) (fun hq4 => ?_)
  rotate_left
  ·refine Ae 3 rfl ?_
   refine Ky ?_
   refine Ab results57 z1 (fun w1 hw1 => ?_)
   exact ⟨(rq ((hF.ok3 (hF5.neg hq1)).neg hq4)), hw1.ext_out⟩
  refine Hf ?_
  refine Y6 Ag (Eb (l := [_, _, _]) runUnderlying190 sizeOf144 zeroValue144) (k := fun r3 hr3 => ?_)
  refine bY (args := [_, _]) (Ad call94) func94 ntmps94 ?_
  refine Ig ?_
  refine P4 ?_
  refine Dr (σ1 := Nat) (σ2 := Nat) (fun n_9 x_8 => ((r3, oc [(Value.func (.func 95) [].toArray [].toArray), (Value.func (.func 96) [].toArray [].toArray), (Value.func (.func 97) [].toArray [].toArray)] 144) :: ((r1, Obj.map x_3e x_3k) :: []))) (fun n_9 x_8 => [(1, (vs (some ⟨r3, 0, none⟩) 3 3)), (4, (Value.bool false)), (9, (vs l_a l.length l_c)), (10, (vi ((l.length : Nat) : Int))), (11, (vi ((x_8 : Nat) : Int)))]) (fun n_9 x_8 => l.length - x_8 < n_9 ∧ Is (Mg l x_1 last_2 x_3 (l.length + 1) 0) (Mg l x_1 last_2 x_3 n_9 x_8) ∧ x_8 ≤ l.length) (fun n_9 x_8 => n_9) (l.length + 1) 0 ?_ se (List.Perm.refl _) ?_
  ·exact ⟨Nat.lt_succ_self _, Is.refl _, Kh⟩
  ·rintro (_ | n_9) x_8 ⟨hm11, hF10, hi12⟩
   ·omega
   refine Zd ?_
   refine Au rfl (fun hq5 => ?_) (fun hq5 => ?_)
   rotate_left
   ·refine Ca ?_
    refine La ?_
    refine P2 ?_
    refine Ab results57 z1 (fun w1 hw1 => ?_)
    exact ⟨(rq (((hF.ok3 (hF5.neg hq1)).pos hq4).ok1 (hF10.neg hq5))), hw1.ext_out⟩
   refine xC ?_
   refine Af (Cb (n := l.length) runUnderlying50 sizeOf62 x_8 bP (gD z3) Jv) (k := ?_)
   refine Af (Cn isAgg62 sizeOf62 x_8 bP (gD z3)) (k := ?_)
   refine Ah Ag z60 (k := fun r4 hr4 => ?_)
   refine lY ?_
   refine Pm ?_
   refine Af (Ei runUnderlying190) (k := ?_)
   refine Lq ?_
   refine Lj ?_
   refine K8 ?_
   refine Af (Hg runUnderlying190 sizeOf144 0) (k := ?_)
   refine Af (Bv isAgg144) (k := ?_)
   refine Jq ?_
   refine AE0 ?_
   refine Fu (Ad call95) (fun w1 hw1 => F1 w1 (c := (l.getD x_8 default))) (k := ?_)
   refine Rj ?_
   refine Ct rfl (fun hq6 => ?_) (fun hq6 => ?_)
   ·refine Bg ?_
    refine Cs ?_
    refine Z6 ?_
    refine Z41 ?_
    refine Cy ?_
    refine lB ?_
    refine P2 ?_
    refine Ab results57 z1 (fun w1 hw1 => ?_)
    exact ⟨(rq (((hF.ok3 (hF5.neg hq1)).pos hq4).er1 ((hF10.pos hq5).t hq6))), hw1.ext_out⟩
   refine fS ?_
   refine Af (Hg runUnderlying190 sizeOf144 1) (k := ?_)
   refine Af (Bv isAgg144) (k := ?_)
   refine Jq ?_
   refine AE0 ?_
   refine Fu (Ad call96) (fun w1 hw1 => vK w1 (c := (l.getD x_8 default))) (k := ?_)
   refine Rj ?_
   refine Ct rfl (fun hq7 => ?_) (fun hq7 => ?_)
   ·refine Bg ?_
    refine Cs ?_
    refine Z6 ?_
    refine Z41 ?_
    refine Cy ?_
    refine lB ?_
    refine P2 ?_
    refine Ab results57 z1 (fun w1 hw1 => ?_)
    exact ⟨(rq (((hF.ok3 (hF5.neg hq1)).pos hq4).er1 (((hF10.pos hq5).f hq6).t hq7))), hw1.ext_out⟩
   refine fS ?_
   refine Af (Hg runUnderlying190 sizeOf144 2) (k := ?_)
   refine Af (Bv isAgg144) (k := ?_)
   refine Jq ?_
   refine AE0 ?_
   refine Fu (Ad call97) (fun w1 hw1 => pZ w1 (c := (l.getD x_8 default))) (k := ?_)
   refine Rj ?_
   refine Ct rfl (fun hq8 => ?_) (fun hq8 => ?_)
   ·refine Bg ?_
    refine Cs ?_
    refine Z6 ?_
    refine Z41 ?_
    refine Cy ?_
    refine lB ?_
    refine P2 ?_
    refine Ab results57 z1 (fun w1 hw1 => ?_)
    exact ⟨(rq (((hF.ok3 (hF5.neg hq1)).pos hq4).er1 ((((hF10.pos hq5).f hq6).f hq7).t hq8))), hw1.ext_out⟩
   refine Xi ?_
   refine Z40 ?_
   refine jC ?_
   refine Ci _ ((qa (qa q0)).trans (qa (qa q0))) ?_
   refine Cj _ oJ ?_
   exact Dp n_9 (x_8 + 1) ⟨by omega, ((((hF10.pos hq5).f hq6).f hq7).f hq8), z2⟩ (Nat.lt_succ_self _) se (List.Perm.refl _)

theorem sD (w : World) {l_a : Option Addr} {l_c : Nat} {ea0 : Addr} {ea1 : Addr} {ea2 : Addr} {ea3 : Addr} {l : List Bw} {key : Ap} {now : Int} {overlap : Int} {span : Int} (h_l : Sl w Fq 4 l_a l) (n_l : l.length ≤ 1000) (hG : Gl w) (hE : Er w ea0 ea1 ea2 ea3) : Calls Tryz.prog 111 (List.toArray [(vs l_a l.length l_c), (vt key), (vi now), (vi overlap), (vi span)]) w fun e w2 => ∃ a1 : Option Addr, ∃ c1 : Nat, ∃ B1 : Aj, e = .returned (Value.tuple [(vs a1 ((Fg l key now overlap span).1.length) c1), (vi ((Fg l key now overlap span).2.1)), (vi ((Fg l key now overlap span).2.2))].toArray) ∧ Dh w w2 B1 ∧ Bi Fq 4 62 a1 c1 B1 (Fg l key now overlap span).1 ∧ (Fg l key now overlap span).1.length ≤ 4 := by
 have hF := Is.refl (Fg l key now overlap span)
 refine enter func111 ntmps111 (h := ?_)
 refine Z2 ?_
 refine AP5 ?_
 refine K9 ?_
 refine Cg ?_
 refine Fa (args := [_, _, _, _, _]) (Ad call141) func141 ntmps141 ?_
 refine Z2 ?_
 refine Ah Ag (Hi (l := [_])) (k := fun r1 hr1 => ?_)
 refine Ah Ag (Hi (l := [_])) (k := fun r2 hr2 => ?_)
 refine xE ?_
 refine Z1 ?_
 refine Zf ?_
 refine Fu (Ad call57) (fun w1 hw1 => iK w1 (l := l) (h_l := (Bp.of_base h_l) w1 hw1) (n_l := z6)) (k := ?_)
 refine oU ?_
 refine Ct rfl (fun hq1 => ?_) (fun hq1 => ?_)
 ·refine Bg ?_
  refine Cs ?_
  refine lE ?_
  refine xE ?_
  refine Jt ?_
  refine jN ?_
  refine Ah Ag K6 (k := fun r3 hr3 => ?_)
  refine jO ?_
  refine Gy (args := [(Value.iface 216 (Value.agg [(vi 110)].toArray)), (Value.iface 219 (Value.pointer (some ⟨r3, 0, none⟩)))]) (Ad call76) (fun w1 hw1 => Lm w1 (hG.ext hw1.ext_out).ety (hw1.own _ me)) (k := ?_)
  rintro w1_1 e1_1 w2_1 hw1_1 ⟨he_1, hT_1⟩
  refine ⟨_, _, he_1, (hw1_1.perm q0).tr hT_1, ?_⟩
  refine fZ ?_
  refine lJ ?_
  refine Pi ?_
  refine jF ?_
  refine Z6 ?_
  refine Ab results111 (Fb.tmp rfl (Fb.tmp rfl z1)) (fun w1 hw1 => ?_)
  exact ⟨none, 0, [], (rq (hF.t hq1)), (hw1.fresh_out.sub Nr), (ro (hF.t hq1)), (rl (hF.t hq1))⟩
 have hfhq1 := mU tC
 refine Z4 ?_
 refine Fu (Ad call134) (fun w1 hw1 => iJ w1 (key := key)) (k := ?_)
 refine oU ?_
 refine Ct rfl (fun hq2 => ?_) (fun hq2 => ?_)
 ·refine Bg ?_
  refine Cs ?_
  refine lE ?_
  refine xE ?_
  refine Jt ?_
  refine jN ?_
  refine Ah Ag K6 (k := fun r4 hr4 => ?_)
  refine jO ?_
  refine Gy (args := [(Value.iface 216 (Value.agg [(vi 50)].toArray)), (Value.iface 219 (Value.pointer (some ⟨r4, 0, none⟩)))]) (Ad call76) (fun w1 hw1 => Lm w1 (hG.ext hw1.ext_out).ety (hw1.own _ me)) (k := ?_)
  rintro w1_2 e1_2 w2_2 hw1_2 ⟨he_2, hT_2⟩
  refine ⟨_, _, he_2, (hw1_2.perm q0).tr hT_2, ?_⟩
  refine fZ ?_
  refine lJ ?_
  refine Pi ?_
  refine jF ?_
  refine Z6 ?_
  refine Ab results111 (Fb.tmp rfl (Fb.tmp rfl z1)) (fun w1 hw1 => ?_)
  exact ⟨none, 0, [], (rq ((hF.f hq1).t hq2)), (hw1.fresh_out.sub Nr), (ro ((hF.f hq1).t hq2)), (rl ((hF.f hq1).t hq2))⟩
 refine Z2 ?_
 refine Hx ?_
 refine Fu (Ad call133) (fun w1 hw1 => Ym w1 (n_ := now) (least := 0) (most := 1000000000000)) (k := ?_)
 refine oT ?_
 refine Di 31 rfl (fun hq3 => ?_) (fun hq3 => ?_)
 ·refine Ae 3 rfl ?_
  refine Uu ?_
  refine Pj ?_
  refine Ae 4 rfl ?_
  refine tX ?_
  refine Zc ?_
  refine lE ?_
  refine xE ?_
  refine Jt ?_
  refine jN ?_
  refine Ah Ag K6 (k := fun r5 hr5 => ?_)
  refine jO ?_
  refine Gy (args := [(Value.iface 216 (Value.agg [(vi 2)].toArray)), (Value.iface 219 (Value.pointer (some ⟨r5, 0, none⟩)))]) (Ad call76) (fun w1 hw1 => Lm w1 (hG.ext hw1.ext_out).ety (hw1.own _ me)) (k := ?_)
  rintro w1_3 e1_3 w2_3 hw1_3 ⟨he_3, hT_3⟩
  refine ⟨_, _, he_3, (hw1_3.perm q0).tr hT_3, ?_⟩
  refine fZ ?_
  refine lJ ?_
  refine Pi ?_
  refine jF ?_
  refine Z6 ?_
  refine Ab results111 (Fb.tmp rfl (Fb.tmp rfl z1)) (fun w1 hw1 => ?_)
  exact ⟨none, 0, [], (rq (((hF.f hq1).f hq2).t hq3)), (hw1.fresh_out.sub Nr), (ro (((hF.f hq1).f hq2).t hq3)), (rl (((hF.f hq1).f hq2).t hq3))⟩
 have hfhq3 := kJ (by simpa using hq3)
 refine Vz ?_
 refine Ih (Ad call133) (fun w1 hw1 => Ym w1 (n_ := overlap) (least := 0) (most := 1000000000)) (k := ?_)
 refine Bb Lv (k := ?_)
 refine Rv ?_
 refine Di 36 rfl (fun hq4 => ?_) (fun hq4 => ?_)
 ·refine Ae 3 rfl ?_
  refine Pj ?_
  refine Ae 4 rfl ?_
  refine tX ?_
  refine Zc ?_
  refine lE ?_
  refine xE ?_
  refine Jt ?_
  refine jN ?_
  refine Ah Ag K6 (k := fun r6 hr6 => ?_)
  refine jO ?_
  refine Gy (args := [(Value.iface 216 (Value.agg [(vi 2)].toArray)), (Value.iface 219 (Value.pointer (some ⟨r6, 0, none⟩)))]) (Ad call76) (fun w1 hw1 => Lm w1 (hG.ext hw1.ext_out).ety (hw1.own _ me)) (k := ?_)
  rintro w1_4 e1_4 w2_4 hw1_4 ⟨he_4, hT_4⟩
  refine ⟨_, _, he_4, (hw1_4.perm q0).tr hT_4, ?_⟩
  refine fZ ?_
  refine lJ ?_
  refine Pi ?_
  refine jF ?_
  refine Z6 ?_
  refine Ab results111 (Fb.tmp rfl (Fb.tmp rfl z1)) (fun w1 hw1 => ?_)
  exact ⟨none, 0, [], (rq ((((hF.f hq1).f hq2).f hq3).t hq4)), (hw1.fresh_out.sub Nr), (ro ((((hF.f hq1).f hq2).f hq3).t hq4)), (rl ((((hF.f hq1).f hq2).f hq3).t hq4))⟩
 have hfhq4 := kJ (by simpa using hq4)
 refine Hf ?_
 refine Ih (Ad call133) (fun w1 hw1 => Ym w1 (n_ := span) (least := 1) (most := 1000000000)) (k := ?_)
 refine Bb Lv (k := ?_)
 refine Rv ?_
 refine Di 41 rfl (fun hq5 => ?_) (fun hq5 => ?_)
 ·refine Ae 4 rfl ?_
  refine tX ?_
  refine Zc ?_
  refine lE ?_
  refine xE ?_
  refine Jt ?_
  refine jN ?_
  refine Ah Ag K6 (k := fun r7 hr7 => ?_)
  refine jO ?_
  refine Gy (args := [(Value.iface 216 (Value.agg [(vi 2)].toArray)), (Value.iface 219 (Value.pointer (some ⟨r7, 0, none⟩)))]) (Ad call76) (fun w1 hw1 => Lm w1 (hG.ext hw1.ext_out).ety (hw1.own _ me)) (k := ?_)
  rintro w1_5 e1_5 w2_5 hw1_5 ⟨he_5, hT_5⟩
  refine ⟨_, _, he_5, (hw1_5.perm q0).tr hT_5, ?_⟩
  refine fZ ?_
  refine lJ ?_
  refine Pi ?_
  refine jF ?_
  refine Z6 ?_
  refine Ab results111 (Fb.tmp rfl (Fb.tmp rfl z1)) (fun w1 hw1 => ?_)
  exact ⟨none, 0, [], (rq (((((hF.f hq1).f hq2).f hq3).f hq4).t hq5)), (hw1.fresh_out.sub Nr), (ro (((((hF.f hq1).f hq2).f hq3).f hq4).t hq5)), (rl (((((hF.f hq1).f hq2).f hq3).f hq4).t hq5))⟩
 have hfhq5 := kJ (by simpa using hq5)
 refine Vz ?_
 refine Hf ?_
 refine Bb gV (k := ?_)
 refine Bb Lu (k := ?_)
 refine Af Hy (k := ?_)
 refine Z1 ?_
 refine Au rfl (fun hq6 => ?_) (fun hq6 => ?_)
 ·refine Bg ?_
  refine Cs ?_
  refine lE ?_
  refine xE ?_
  refine Jt ?_
  refine jN ?_
  refine Ah Ag K6 (k := fun r8 hr8 => ?_)
  refine jO ?_
  refine Gy (args := [(Value.iface 216 (Value.agg [(vi 2)].toArray)), (Value.iface 219 (Value.pointer (some ⟨r8, 0, none⟩)))]) (Ad call76) (fun w1 hw1 => Lm w1 (hG.ext hw1.ext_out).ety (hw1.own _ me)) (k := ?_)
  rintro w1_6 e1_6 w2_6 hw1_6 ⟨he_6, hT_6⟩
  refine ⟨_, _, he_6, (hw1_6.perm q0).tr hT_6, ?_⟩
  refine fZ ?_
  refine lJ ?_
  refine Pi ?_
  refine jF ?_
  refine Z6 ?_
  refine Ab results111 (Fb.tmp rfl (Fb.tmp rfl z1)) (fun w1 hw1 => ?_)
  exact ⟨none, 0, [], (rq ((((((hF.f hq1).f hq2).f hq3).f hq4).f hq5).pos hq6)), (hw1.fresh_out.sub Nr), (ro ((((((hF.f hq1).f hq2).f hq3).f hq4).f hq5).pos hq6)), (rl ((((((hF.f hq1).f hq2).f hq3).f hq4).f hq5).pos hq6))⟩
 refine Bq ?_
 refine fY ?_
 refine Ah Ag (Dn (l := [_]) zeroValue3) (k := fun r9 hr9 => ?_)
 refine oY ?_
 refine Pm ?_
 refine Af dD (k := ?_)
 refine Fa (args := [_, _]) (Ad call158) func158 ntmps158 ?_
 refine Ut ?_
 refine Ig ?_
 refine P4 ?_
 refine R4 (σ1 := Nat) (σ2 := Nat) (σ3 := List Bw) (σ4 := Option Addr) (σ5 := Nat) (σ6 := Aj) (σ7 := Int) (fun n_4 x_1 out_2 out_2a out_2c out_2B x_3 => (out_2B ++ ((r9, oc [(vi x_3)] 3) :: ((r2, oc [(vi overlap)] 3) :: ((r1, oc [(vi now)] 3) :: []))))) (fun n_4 x_1 out_2 out_2a out_2c out_2B x_3 => [(1, (Value.func (.func 159) [].toArray [(Value.pointer (some ⟨r9, 0, none⟩)), (Value.pointer (some ⟨r1, 0, none⟩)), (Value.pointer (some ⟨r2, 0, none⟩))].toArray)), (4, (vs none 0 0)), (5, (vs out_2a out_2.length out_2c)), (8, (vs l_a l.length l_c)), (9, (vi ((l.length : Nat) : Int))), (10, (vi ((x_1 : Nat) : Int)))]) (fun n_4 x_1 out_2 out_2a out_2c out_2B x_3 => l.length - x_1 < n_4 ∧ Is (Ib l key now overlap span (l.length + 1) 0 [] 1) (Ib l key now overlap span n_4 x_1 out_2 x_3) ∧ Bi Fq 4 62 out_2a out_2c out_2B out_2 ∧ out_2.length ≤ x_1 ∧ x_1 ≤ l.length) (fun n_4 x_1 out_2 out_2a out_2c out_2B x_3 => n_4) (l.length + 1) 0 ([]) none 0 ([]) 1 ?_ se (List.Perm.refl _) ?_
 ·exact ⟨Nat.lt_succ_self _, Is.refl _, Bi.nil, Kh, Kh⟩
 ·rintro (_ | n_4) x_1 out_2 out_2a out_2c out_2B x_3 ⟨hm6, hF5, hout_2, hi7, hi8⟩
  ·omega
  refine Zd ?_
  refine Au rfl (fun hq7 => ?_) (fun hq7 => ?_)
  ·refine Bq ?_
   refine Ea ?_
   refine J7 ?_
   refine Z2 ?_
   refine AN5 ?_
   refine Ah Ag z60 (k := fun r10 hr10 => ?_)
   refine lY ?_
   refine Pm ?_
   refine yN ?_
   refine Fa (args := [_, _, _, _]) (Ad call159) func159 ntmps159 ?_
   refine Z2 ?_
   refine Ah Ag (Hi (l := [_, _, _, _])) (k := fun r11 hr11 => ?_)
   refine Ah Ag z60 (k := fun r12 hr12 => ?_)
   refine Uw ?_
   refine Af (Ai Kw) (k := ?_)
   refine Hx ?_
   have hid := dZ.id (l := l) Ey x_1
   refine Zi ?_
   refine O8 ?_
   refine Z2 ?_
   refine O2 ?_
   refine Hx ?_
   refine Af Pt (k := ?_)
   refine Z0 ?_
   refine Au rfl (fun hq8 => ?_) (fun hq8 => ?_)
   ·refine Bg ?_
    refine Cs ?_
    refine Af (Ef (cs := [_, _, _, _]) zeroValue62 AA5) (k := ?_)
    refine lY ?_
    refine rO ?_
    refine Fl ?_
    refine AP9 ?_
    refine Uw ?_
    refine Af (Ai Yk) (k := ?_)
    refine Hx ?_
    refine O2 ?_
    refine Z9 ?_
    refine Xk ?_
    refine AN0 ?_
    exact jX n_4 (x_1 + 1) out_2 out_2a out_2c out_2B (((l.getD x_1 default).id) + 1) ⟨by omega, ((hF5.pos hq7).pos hq8), hout_2, z2, z2⟩ (Nat.lt_succ_self _) se (List.Perm.refl _)
   refine Rr ?_
   refine O2 ?_
   refine Hx ?_
   refine Hx ?_
   refine Zi ?_
   refine Af aD (k := ?_)
   refine Af (Ai Yl) (k := ?_)
   refine Gw (Bt (l' := [_, _, _, _]) sizeOf3) (k := ?_)
   refine Uw ?_
   refine yN ?_
   refine lY ?_
   refine rO ?_
   refine AP9 ?_
   refine Uw ?_
   refine Af (Ai Yk) (k := ?_)
   refine Hx ?_
   refine O2 ?_
   refine Z9 ?_
   refine Au rfl (fun hq9 => ?_) (fun hq9 => ?_)
   rotate_left
   ·refine Bq ?_
    refine jC ?_
    refine AN0 ?_
    exact jX n_4 (x_1 + 1) out_2 out_2a out_2c out_2B (((l.getD x_1 default).id) + 1) ⟨by omega, (((hF5.pos hq7).neg hq8).neg hq9), hout_2, z2, z2⟩ (Nat.lt_succ_self _) se (List.Perm.refl _)
   refine fQ ?_
   refine yN ?_
   refine Ah Ag z74 (k := fun r13 hr13 => ?_)
   refine Az (out_2 ++ ([(Bw.mk ((l.getD x_1 default).id) ((l.getD x_1 default).key) ((l.getD x_1 default).frm) (if (now + overlap) < ((l.getD x_1 default).to) then (now + overlap) else ((l.getD x_1 default).to)))] : List Bw)) rfl sC underlying50 Ed hout_2 (qb (qb (qb (qb q0)))) (Bp.lit (xs := ([(Bw.mk ((l.getD x_1 default).id) ((l.getD x_1 default).key) ((l.getD x_1 default).frm) (if (now + overlap) < ((l.getD x_1 default).to) then (now + overlap) else ((l.getD x_1 default).to)))] : List Bw)) Ed) ⟨by omega, by omega⟩ (n := out_2.length) (m := 1) (k := fun ax1 cx1 Bx1 hox1 => ?_)
   have hal1 : (out_2 ++ ([(Bw.mk ((l.getD x_1 default).id) ((l.getD x_1 default).key) ((l.getD x_1 default).frm) (if (now + overlap) < ((l.getD x_1 default).to) then (now + overlap) else ((l.getD x_1 default).to)))] : List Bw)).length = out_2.length + 1 := by first | rfl | exact List.length_append | simp
   refine Wz ?_
   refine jC ?_
   refine Ci _ ((((qc (qa (qa (qa (qa (qa (qa q0))))))).trans (qa (qc (qa (qa (qa (qa (qa q0)))))))).trans (qa (qa (qc (qa (qa (qa (qa q0)))))))).trans (qb (qb (qb q0)))) ?_
   refine AQ3 ?_
   exact jX n_4 (x_1 + 1) (out_2 ++ ([(Bw.mk ((l.getD x_1 default).id) ((l.getD x_1 default).key) ((l.getD x_1 default).frm) (if (now + overlap) < ((l.getD x_1 default).to) then (now + overlap) else ((l.getD x_1 default).to)))] : List Bw)) ax1 cx1 Bx1 (((l.getD x_1 default).id) + 1) ⟨by omega, (((hF5.pos hq7).neg hq8).pos hq9), hox1, z2, z2⟩ (Nat.lt_succ_self _) se (List.Perm.refl _)
  refine Ca ?_
  refine bF ?_
  refine Cc results158 z1 ?_
  refine Jq ?_
  refine O7 ?_
  refine Hx ?_
  refine Hx ?_
  refine J8 ?_
  refine Af (Ef (cs := [_, _, _, _]) zeroValue62 AA5) (k := ?_)
  refine Ah Ag z74 (k := fun r14 hr14 => ?_)
  refine Az (out_2 ++ ([(Bw.mk x_3 key now (now + span))] : List Bw)) rfl sC underlying50 Ed hout_2 (qb q0) (Bp.lit (xs := ([(Bw.mk x_3 key now (now + span))] : List Bw)) Ed) ⟨by omega, by omega⟩ (n := out_2.length) (m := 1) (k := fun ax2 cx2 Bx2 hox2 => ?_)
  have hal2 : (out_2 ++ ([(Bw.mk x_3 key now (now + span))] : List Bw)).length = out_2.length + 1 := by first | rfl | exact List.length_append | simp
  refine Xc ?_
  refine cX ?_
  refine Af Lu (k := ?_)
  refine Cg ?_
  refine Ao 65 rfl (fun hq10 => ?_) (fun hq10 => ?_)
  ·refine Ae 2 rfl ?_
   refine Xe ?_
   refine lE ?_
   refine xE ?_
   refine Pi ?_
   refine jN ?_
   refine Ah Ag K6 (k := fun r15 hr15 => ?_)
   refine jO ?_
   refine Gy (args := [(Value.iface 216 (Value.agg [(vi 92)].toArray)), (Value.iface 219 (Value.pointer (some ⟨r15, 0, none⟩)))]) (Ad call76) (fun w1 hw1 => Lm w1 (hG.ext hw1.ext_out).ety (hw1.own _ me)) (k := ?_)
   rintro w1_7 e1_7 w2_7 hw1_7 ⟨he_7, hT_7⟩
   refine ⟨_, _, he_7, (hw1_7.perm q0).tr hT_7, ?_⟩
   refine fZ ?_
   refine lJ ?_
   refine Pi ?_
   refine jF ?_
   refine Z6 ?_
   refine Ab results111 (Fb.tmp rfl (Fb.tmp rfl z1)) (fun w1 hw1 => ?_)
   exact ⟨none, 0, [], (rq ((((((((hF.f hq1).f hq2).f hq3).f hq4).f hq5).neg hq6).rn3 (hF5.neg hq7)).pos hq10)), (hw1.fresh_out.sub Nr), (ro ((((((((hF.f hq1).f hq2).f hq3).f hq4).f hq5).neg hq6).rn3 (hF5.neg hq7)).pos hq10)), (rl ((((((((hF.f hq1).f hq2).f hq3).f hq4).f hq5).neg hq6).rn3 (hF5.neg hq7)).pos hq10))⟩
  refine Vz ?_
  refine Bb Lu (k := ?_)
  refine Qh ?_
  refine Au rfl (fun hq11 => ?_) (fun hq11 => ?_)
  rotate_left
  ·refine Bq ?_
   refine cT ?_
   refine Fi Da 5 [(true, 0), (true, 1), (true, 2), (true, 3), (true, 4)] z4 ?_
   refine Gu ?_
   refine Sc ?_
   refine Aw Fj (k := ?_)
   refine Aw Fj (k := ?_)
   refine Y3 ?_
   refine jN ?_
   refine Ah Ag K6 (k := fun r17 hr17 => ?_)
   refine jO ?_
   refine Fu (args := [Value.nilIface, (Value.iface 219 (Value.pointer (some ⟨r17, 0, none⟩)))]) (Ad call76) (fun w1 hw1 => C7 w1) (k := ?_)
   refine Z0 ?_
   refine Gj rfl ?_
   refine aY ?_
   refine Vw ?_
   refine jF ?_
   refine Z6 ?_
   refine Ab results111 (Fb.tmp rfl (Fb.tmp rfl z1)) (fun w1 hw1 => ?_)
   exact ⟨ax2, cx2, Bx2, (rq (((((((((hF.f hq1).f hq2).f hq3).f hq4).f hq5).neg hq6).rn3 (hF5.neg hq7)).neg hq10).neg hq11)), (Ba (L := Bx2) (hw1.perm (qb q0)) rfl.symm), (by rw [(((((((((hF.f hq1).f hq2).f hq3).f hq4).f hq5).neg hq6).rn3 (hF5.neg hq7)).neg hq10).neg hq11).eq]; exact hox2), (rl (((((((((hF.f hq1).f hq2).f hq3).f hq4).f hq5).neg hq6).rn3 (hF5.neg hq7)).neg hq10).neg hq11))⟩
  refine Z2 ?_
  refine lE ?_
  refine xE ?_
  refine Pi ?_
  refine jN ?_
  refine Ah Ag K6 (k := fun r16 hr16 => ?_)
  refine jO ?_
  refine Gy (args := [(Value.iface 216 (Value.agg [(vi 92)].toArray)), (Value.iface 219 (Value.pointer (some ⟨r16, 0, none⟩)))]) (Ad call76) (fun w1 hw1 => Lm w1 (hG.ext hw1.ext_out).ety (hw1.own _ me)) (k := ?_)
  rintro w1_8 e1_8 w2_8 hw1_8 ⟨he_8, hT_8⟩
  refine ⟨_, _, he_8, (hw1_8.perm q0).tr hT_8, ?_⟩
  refine fZ ?_
  refine lJ ?_
  refine Pi ?_
  refine jF ?_
  refine Z6 ?_
  refine Ab results111 (Fb.tmp rfl (Fb.tmp rfl z1)) (fun w1 hw1 => ?_)
  exact ⟨none, 0, [], (rq (((((((((hF.f hq1).f hq2).f hq3).f hq4).f hq5).neg hq6).rn3 (hF5.neg hq7)).neg hq10).pos hq11)), (hw1.fresh_out.sub Nr), (ro (((((((((hF.f hq1).f hq2).f hq3).f hq4).f hq5).neg hq6).rn3 (hF5.neg hq7)).neg hq10).pos hq11)), (rl (((((((((hF.f hq1).f hq2).f hq3).f hq4).f hq5).neg hq6).rn3 (hF5.neg hq7)).neg hq10).pos hq11))⟩

end Go.Proofs.YtopjaeoklkpcpaaGreatDoor.Jd

namespace Go.Proofs.YtopjaeoklkpcpaaGreatDoor.Jd
open Go.Proofs.Tryz
open Go.Proofs
open Go.RowKit (Below)
set_option maxRecDepth 100000
set_option maxHeartbeats 8000000
set_option linter.unusedVariables false
set_option linter.unusedSimpArgs false
theorem AI5 (a0 b0 : Int) (a1 b1 : Int) (n : Nat) (w : World) : (Op.equalIn (n + 2) 30 (Value.agg [vi a0, vi a1].toArray) (Value.agg [vi b0, vi b1].toArray)).run Tryz.prog w = .ok (decide (a0 = b0 ∧ a1 = b1)) w := by
 rw [show n + 2 = (n + 1) + 1 from rfl]
 unfold Op.equalIn
 simp [part, Tw (P := Tryz.prog) (t := 3) n .i64 _ _ runUnderlying3]
 by_cases h0 : a0 = b0 <;> by_cases h1 : a1 = b1 <;> simp_all
theorem AI6 (a0 b0 : Int) (a1 b1 : Int) (n : Nat) (w : World) : (Op.equalIn (n + 2) 32 (Value.agg [vi a0, vi a1].toArray) (Value.agg [vi b0, vi b1].toArray)).run Tryz.prog w = .ok (decide (a0 = b0 ∧ a1 = b1)) w := by
 rw [show n + 2 = (n + 1) + 1 from rfl]
 unfold Op.equalIn
 simp [part, Tw (P := Tryz.prog) (t := 3) n .i64 _ _ runUnderlying3]
 by_cases h0 : a0 = b0 <;> by_cases h1 : a1 = b1 <;> simp_all
theorem AI7 (a0 b0 : Bool) (a1 b1 : Int) (a2 b2 : Int) (a3 b3 : Int) (a4 b4 : Int) (n : Nat) (w : World) : (Op.equalIn (n + 3) 34 (Value.agg [Value.bool a0, vi a1, vi a2, vi a3, vi a4].toArray) (Value.agg [Value.bool b0, vi b1, vi b2, vi b3, vi b4].toArray)).run Tryz.prog w = .ok (decide (a0 = b0 ∧ a1 = b1 ∧ a2 = b2 ∧ a3 = b3 ∧ a4 = b4)) w := by
 have hs0 := AI5 a1 b1 a2 b2 n w
 have hs1 := AI6 a3 b3 a4 b4 n w
 rw [show n + 3 = (n + 2) + 1 from rfl]
 unfold Op.equalIn
 simp [part, jV (P := Tryz.prog) (t := 4) (n + 1) _ _ runUnderlying4, hs0, hs1] at *
 by_cases h0 : a0 = b0 <;> by_cases h1 : a1 = b1 <;> by_cases h2 : a2 = b2 <;> by_cases h3 : a3 = b3 <;> by_cases h4 : a4 = b4 <;> simp_all
theorem AA6 (x y : Operand) (a0 b0 : Bool) (a1 b1 : Int) (a2 b2 : Int) (a3 b3 : Int) (a4 b4 : Int) (w : World) : (do eqGuard .neq 34 x y (Value.agg [Value.bool a0, vi a1, vi a2, vi a3, vi a4].toArray) (Value.agg [Value.bool b0, vi b1, vi b2, vi b3, vi b4].toArray); binOp .neq 34 (Value.agg [Value.bool a0, vi a1, vi a2, vi a3, vi a4].toArray) (Value.agg [Value.bool b0, vi b1, vi b2, vi b3, vi b4].toArray) : Sem Value).run Tryz.prog w = .ok (.bool (decide (¬ (a0 = b0 ∧ a1 = b1 ∧ a2 = b2 ∧ a3 = b3 ∧ a4 = b4)))) w := by
 have h2 : (binOp .neq 34 (Value.agg [Value.bool a0, vi a1, vi a2, vi a3, vi a4].toArray) (Value.agg [Value.bool b0, vi b1, vi b2, vi b3, vi b4].toArray)).run Tryz.prog w = .ok (.bool (decide (¬ (a0 = b0 ∧ a1 = b1 ∧ a2 = b2 ∧ a3 = b3 ∧ a4 = b4)))) w := by
  show (do pure (.bool (!(← Op.equal 34 _ _))) : Sem Value).run Tryz.prog w = _
  simp only [Sem.run_bind, Op.equal, Op.maxDepth, AI7 a0 b0 a1 b1 a2 b2 a3 b3 a4 b4 9997, Result.andThen_ok, Sem.run_pure]
  congr 2
  simp
 simp [eqGuard]
 simpa using h2
theorem AI8 (a0 b0 : Int) (a1 b1 : Ap) (a2 b2 : Int) (a3 b3 : Int) (n : Nat) (w : World) : (Op.equalIn (n + 2) 62 (Value.agg [vi a0, Value.string (bs a1), vi a2, vi a3].toArray) (Value.agg [vi b0, Value.string (bs b1), vi b2, vi b3].toArray)).run Tryz.prog w = .ok (decide (a0 = b0 ∧ a1 = b1 ∧ a2 = b2 ∧ a3 = b3)) w := by
 rw [show n + 2 = (n + 1) + 1 from rfl]
 unfold Op.equalIn
 simp [part, Tw (P := Tryz.prog) (t := 3) n .i64 _ _ runUnderlying3, uL (P := Tryz.prog) (t := 9) n _ _ runUnderlying9]
 by_cases h0 : a0 = b0 <;> by_cases h1 : a1 = b1 <;> by_cases h2 : a2 = b2 <;> by_cases h3 : a3 = b3 <;> simp_all
theorem AA7 (x y : Operand) (a0 b0 : Int) (a1 b1 : Ap) (a2 b2 : Int) (a3 b3 : Int) (w : World) : (do eqGuard .neq 62 x y (Value.agg [vi a0, Value.string (bs a1), vi a2, vi a3].toArray) (Value.agg [vi b0, Value.string (bs b1), vi b2, vi b3].toArray); binOp .neq 62 (Value.agg [vi a0, Value.string (bs a1), vi a2, vi a3].toArray) (Value.agg [vi b0, Value.string (bs b1), vi b2, vi b3].toArray) : Sem Value).run Tryz.prog w = .ok (.bool (decide (¬ (a0 = b0 ∧ a1 = b1 ∧ a2 = b2 ∧ a3 = b3)))) w := by
 have h2 : (binOp .neq 62 (Value.agg [vi a0, Value.string (bs a1), vi a2, vi a3].toArray) (Value.agg [vi b0, Value.string (bs b1), vi b2, vi b3].toArray)).run Tryz.prog w = .ok (.bool (decide (¬ (a0 = b0 ∧ a1 = b1 ∧ a2 = b2 ∧ a3 = b3)))) w := by
  show (do pure (.bool (!(← Op.equal 62 _ _))) : Sem Value).run Tryz.prog w = _
  simp only [Sem.run_bind, Op.equal, Op.maxDepth, AI8 a0 b0 a1 b1 a2 b2 a3 b3 9998, Result.andThen_ok, Sem.run_pure]
  congr 2
  simp
 simp [eqGuard]
 simpa using h2
theorem F2 (w : World) {r : Bf} : Hn Tryz.prog 136 [(Value.agg [(Value.bool r.allow), (vi r.pfx.addr), (vi r.pfx.bits), (vi r.prt.lo), (vi r.prt.hi)].toArray)] w (Value.bool (mS r)) := by
 have hF := Is.refl (mS r)
 refine enter func136 ntmps136 (h := ?_)
 refine Z2 ?_
 refine Ah Ag Vf (k := fun r1 hr1 => ?_)
 refine Jr ?_
 refine Af (Ai sA) (k := ?_)
 refine Af (Dq isAgg30 sizeOf30) (k := ?_)
 refine Fu (Ad call156) (fun w1 hw1 => vG w1 (p := r.pfx)) (k := ?_)
 refine Cg ?_
 refine Di 6 rfl (fun hq1 => ?_) (fun hq1 => ?_)
 rotate_left
 ·refine Ae 3 rfl ?_
  refine Ky ?_
  refine Ab results136 z1 (fun w1 hw1 => ?_)
  exact ⟨(rq (hF.f hq1)), hw1.ext_out⟩
 have hfhq1 := rRight_t hq1
 refine Bb (Ai sB) (k := ?_)
 refine Bb (Dq isAgg32 sizeOf32) (k := ?_)
 refine Ih (Ad call157) (fun w1 hw1 => pX w1 (p := r.prt)) (k := ?_)
 refine Vv ?_
 refine Ab results136 z1 (fun w1 hw1 => ?_)
 exact ⟨(rq (hF.t hq1)), hw1.ext_out⟩

theorem qA (w : World) {l_a : Option Addr} {l_c : Nat} {l : List Bf} (h_l : Sl w Et 5 l_a l) (n_l : l.length ≤ 1001) : Hn Tryz.prog 106 [(vs l_a l.length l_c)] w (Value.bool (Qq l)) := by
 have hF := Is.refl (Qq l)
 refine enter func106 ntmps106 (h := ?_)
 refine Z2 ?_
 refine Rw ?_
 refine Pn ?_
 refine Dr (σ1 := Nat) (σ2 := Nat) (fun n_2 i_1 => []) (fun n_2 i_1 => [(0, (vs l_a l.length l_c)), (2, (Value.bool false)), (3, (vi ((i_1 : Nat) : Int)))]) (fun n_2 i_1 => l.length - i_1 < n_2 ∧ Is (Iw l (l.length + 1) 0) (Iw l n_2 i_1) ∧ i_1 ≤ l.length) (fun n_2 i_1 => n_2) (l.length + 1) 0 ?_ se (List.Perm.refl _) ?_
 ·exact ⟨Nat.lt_succ_self _, Is.refl _, Kh⟩
 ·rintro (_ | n_2) i_1 ⟨hm4, hF3, hi5⟩
  ·omega
  refine cU ?_
  refine Zh ?_
  refine Z9 ?_
  refine Au rfl (fun hq1 => ?_) (fun hq1 => ?_)
  rotate_left
  ·refine Ca ?_
   refine lR ?_
   refine Zh ?_
   refine Af Pt (k := ?_)
   refine Z6 ?_
   refine Ab results106 z1 (fun w1 hw1 => ?_)
   exact ⟨(rq (hF.ok1 (hF3.neg hq1))), hw1.ext_out⟩
  refine fJ ?_
  refine Pk ?_
  refine Af (Cb (n := l.length) runUnderlying49 sizeOf34 i_1 bP (gD z3) Jv) (k := ?_)
  refine Af (Cn isAgg34 sizeOf34 i_1 bP (gD z3)) (k := ?_)
  refine Fu (Ad call136) (fun w1 hw1 => F2 w1 (r := (l.getD i_1 default))) (k := ?_)
  refine Rj ?_
  refine Ct rfl (fun hq2 => ?_) (fun hq2 => ?_)
  rotate_left
  ·refine Bq ?_
   refine Po ?_
   exact Dp n_2 (i_1 + 1) ⟨by omega, ((hF3.pos hq1).f hq2), z2⟩ (Nat.lt_succ_self _) se (List.Perm.refl _)
  refine Sa ?_
  refine Ab results106 z1 (fun w1 hw1 => ?_)
  exact ⟨(rq (hF.er1 ((hF3.pos hq1).t hq2))), hw1.ext_out⟩

theorem vL (w : World) {a_a : Option Addr} {a_c : Nat} {b_a : Option Addr} {b_c : Nat} {a : List Bf} {b : List Bf} (h_a : Sl w Et 5 a_a a) (n_a : a.length ≤ 1001) (h_b : Sl w Et 5 b_a b) (n_b : b.length ≤ 1001) : Hn Tryz.prog 25 [(vs a_a a.length a_c), (vs b_a b.length b_c)] w (Value.bool (dU a b)) := by
 have hF := Is.refl (dU a b)
 refine enter func25 ntmps25 (h := ?_)
 refine Ig ?_
 refine Zh ?_
 refine Cg ?_
 refine Zh ?_
 refine Vy ?_
 refine Au rfl (fun hq1 => ?_) (fun hq1 => ?_)
 ·refine Bg ?_
  refine Kz ?_
  refine Ab results25 z1 (fun w1 hw1 => ?_)
  exact ⟨(rq (hF.pos hq1)), hw1.ext_out⟩
 refine Js ?_
 refine Pn ?_
 refine Dr (σ1 := Nat) (σ2 := Nat) (fun n_2 i_1 => []) (fun n_2 i_1 => [(0, (vs a_a a.length a_c)), (1, (vs b_a b.length b_c)), (4, (Value.bool false)), (5, (vi ((i_1 : Nat) : Int)))]) (fun n_2 i_1 => a.length - i_1 < n_2 ∧ Is (Ji a b (a.length + 1) 0) (Ji a b n_2 i_1) ∧ i_1 ≤ a.length) (fun n_2 i_1 => n_2) (a.length + 1) 0 ?_ se (List.Perm.refl _) ?_
 ·exact ⟨Nat.lt_succ_self _, Is.refl _, Kh⟩
 ·rintro (_ | n_2) i_1 ⟨hm4, hF3, hi5⟩
  ·omega
  refine cU ?_
  refine Zh ?_
  refine Z9 ?_
  refine Au rfl (fun hq2 => ?_) (fun hq2 => ?_)
  rotate_left
  ·refine Ca ?_
   refine La ?_
   refine Ab results25 z1 (fun w1 hw1 => ?_)
   exact ⟨(rq ((hF.neg hq1).ok1 (hF3.neg hq2))), hw1.ext_out⟩
  refine jJ ?_
  refine Y2 ?_
  refine Aw (Cb (n := a.length) runUnderlying49 sizeOf34 i_1 (Bp.of_base h_a) (gD z3) Jv) (k := ?_)
  refine Aw (Cn isAgg34 sizeOf34 i_1 (Bp.of_base h_a) (gD z3)) (k := ?_)
  refine Xa ?_
  refine Aw (Cb (n := b.length) runUnderlying49 sizeOf34 i_1 (Bp.of_base h_b) (gD z3) Jv) (k := ?_)
  refine Aw (Cn isAgg34 sizeOf34 i_1 (Bp.of_base h_b) (gD z3)) (k := ?_)
  refine Aw (Rl (AA6 _ _ _ _ _ _ _ _ _ _ _ _)) (k := ?_)
  refine Xd ?_
  refine Au rfl (fun hq3 => ?_) (fun hq3 => ?_)
  rotate_left
  ·refine Bq ?_
   refine Po ?_
   exact Dp n_2 (i_1 + 1) ⟨by omega, ((hF3.pos hq2).neg hq3), z2⟩ (Nat.lt_succ_self _) se (List.Perm.refl _)
  refine Sa ?_
  refine Ab results25 z1 (fun w1 hw1 => ?_)
  exact ⟨(rq ((hF.neg hq1).er1 ((hF3.pos hq2).pos hq3))), hw1.ext_out⟩

theorem qB (w : World) {key : Ap} : Hn Tryz.prog 137 [(vt key)] w (Value.bool (Qr key)) := by
 have hF := Is.refl (Qr key)
 refine enter func137 ntmps137 (h := ?_)
 refine Ut ?_
 refine yH ?_
 refine cP ?_
 refine Ao 6 rfl (fun hq1 => ?_) (fun hq1 => ?_)
 rotate_left
 ·refine Ae 3 rfl ?_
  refine Ky ?_
  refine Ab results137 z1 (fun w1 hw1 => ?_)
  exact ⟨(rq (hF.neg hq1)), hw1.ext_out⟩
 refine O0 ?_
 refine cW ?_
 refine Vv ?_
 refine Ab results137 z1 (fun w1 hw1 => ?_)
 exact ⟨(rq (hF.pos hq1)), hw1.ext_out⟩

theorem qC (w : World) {l_a : Option Addr} {l_c : Nat} {l : List Bw} (h_l : Sl w Fq 4 l_a l) (n_l : l.length ≤ 1000) : Hn Tryz.prog 107 [(vs l_a l.length l_c)] w (Value.bool (Oi l)) := by
 have hF := Is.refl (Oi l)
 refine enter func107 ntmps107 (h := ?_)
 refine Z2 ?_
 refine Rw ?_
 refine Pn ?_
 refine Dr (σ1 := Nat) (σ2 := Nat) (fun n_2 i_1 => []) (fun n_2 i_1 => [(0, (vs l_a l.length l_c)), (2, (Value.bool false)), (3, (vi ((i_1 : Nat) : Int)))]) (fun n_2 i_1 => l.length - i_1 < n_2 ∧ Is (Fd l (l.length + 1) 0) (Fd l n_2 i_1) ∧ i_1 ≤ l.length) (fun n_2 i_1 => n_2) (l.length + 1) 0 ?_ se (List.Perm.refl _) ?_
 ·exact ⟨Nat.lt_succ_self _, Is.refl _, Kh⟩
 ·rintro (_ | n_2) i_1 ⟨hm4, hF3, hi5⟩
  ·omega
  refine cU ?_
  refine cX ?_
  refine Z9 ?_
  refine Au rfl (fun hq1 => ?_) (fun hq1 => ?_)
  rotate_left
  ·refine Ca ?_
   refine lR ?_
   refine cX ?_
   refine Af Pt (k := ?_)
   refine Z6 ?_
   refine Ab results107 z1 (fun w1 hw1 => ?_)
   exact ⟨(rq (hF.ok1 (hF3.neg hq1))), hw1.ext_out⟩
  refine fJ ?_
  refine Pk ?_
  refine Af (Cb (n := l.length) runUnderlying50 sizeOf62 i_1 bP (gD z3) Jv) (k := ?_)
  refine Af (Cn isAgg62 sizeOf62 i_1 bP (gD z3)) (k := ?_)
  refine Ah Ag z60 (k := fun r1 hr1 => ?_)
  refine lY ?_
  refine Me ?_
  refine Fi Da 46 [(true, 0), (true, 1), (true, 2), (true, 3), (true, 4), (true, 5), (true, 6), (true, 7), (true, 8), (true, 9), (true, 10), (true, 11), (true, 12), (true, 13), (true, 14), (true, 15), (true, 16), (true, 17), (true, 18), (true, 19), (true, 20), (true, 21), (true, 22), (true, 23), (true, 24), (true, 25), (false, 26), (true, 27), (true, 28), (true, 29), (true, 30), (true, 31), (true, 32), (true, 33), (true, 34), (true, 35), (true, 36), (true, 37), (true, 38), (true, 39), (true, 40), (true, 41), (true, 42), (true, 43), (true, 44), (true, 45)] z4 ?_
  refine Aw (Ai Kw) (k := ?_)
  refine Sc ?_
  refine tS ?_
  refine Fm 18 rfl (fun hq2 => ?_) (fun hq2 => ?_)
  ·refine Bm 3 rfl ?_
   refine fH ?_
   refine Bm 13 rfl ?_
   refine fH ?_
   refine Bm 4 rfl ?_
   refine fR ?_
   refine fH ?_
   refine Bm 5 rfl ?_
   refine fR ?_
   refine jL ?_
   refine Ab results107 z1 (fun w1 hw1 => ?_)
   exact ⟨(rq (hF.er1 ((hF3.pos hq1).pos hq2))), hw1.ext_out⟩
  refine Bl (Ai Kw) (k := ?_)
  refine bK ?_
  refine Bl Lu (k := ?_)
  refine oL ?_
  refine Fm 23 rfl (fun hq3 => ?_) (fun hq3 => ?_)
  ·refine Bm 13 rfl ?_
   refine fH ?_
   refine Bm 4 rfl ?_
   refine fR ?_
   refine fH ?_
   refine Bm 5 rfl ?_
   refine fR ?_
   refine jL ?_
   refine Ab results107 z1 (fun w1 hw1 => ?_)
   exact ⟨(rq (hF.er1 (((hF3.pos hq1).neg hq2).pos hq3))), hw1.ext_out⟩
  refine Mq ?_
  refine Bl Lu (k := ?_)
  refine Mq ?_
  refine Fm 26 rfl (fun hq4 => ?_) (fun hq4 => ?_)
  rotate_left
  ·refine Bm 9 rfl ?_
   refine Bl Hy (k := ?_)
   refine oL ?_
   refine Bl (Ai Ug) (k := ?_)
   refine AQ0 ?_
   refine Bl Lv (k := ?_)
   refine oL ?_
   refine Jz 44 rfl (fun hq10 => ?_) (fun hq10 => ?_)
   ·refine Bm 3 rfl ?_
    refine fH ?_
    refine Bm 5 rfl ?_
    refine fR ?_
    refine jL ?_
    refine Ab results107 z1 (fun w1 hw1 => ?_)
    exact ⟨(rq (hF.er1 (((((hF3.pos hq1).neg hq2).neg hq3).neg hq4).t hq10))), hw1.ext_out⟩
   refine N7 ?_
   refine Bl Ps (k := ?_)
   refine oL ?_
   refine Fm 49 rfl (fun hq11 => ?_) (fun hq11 => ?_)
   ·refine Bm 5 rfl ?_
    refine fR ?_
    refine jL ?_
    refine Ab results107 z1 (fun w1 hw1 => ?_)
    exact ⟨(rq (hF.er1 ((((((hF3.pos hq1).neg hq2).neg hq3).neg hq4).f hq10).pos hq11))), hw1.ext_out⟩
   refine N7 ?_
   refine N8 ?_
   refine Bl Ki (k := ?_)
   refine oL ?_
   refine Fm 56 rfl (fun hq12 => ?_) (fun hq12 => ?_)
   ·refine Bm 3 rfl ?_
    refine jL ?_
    refine Ab results107 z1 (fun w1 hw1 => ?_)
    exact ⟨(rq (hF.er1 (((((((hF3.pos hq1).neg hq2).neg hq3).neg hq4).f hq10).neg hq11).pos hq12))), hw1.ext_out⟩
   refine N8 ?_
   refine Bl Lu (k := ?_)
   refine Xf ?_
   refine Au rfl (fun hq13 => ?_) (fun hq13 => ?_)
   rotate_left
   ·refine Bq ?_
    refine Po ?_
    refine Cj _ Nr ?_
    exact Dp n_2 (i_1 + 1) ⟨by omega, ((((((((hF3.pos hq1).neg hq2).neg hq3).neg hq4).f hq10).neg hq11).neg hq12).neg hq13), z2⟩ (Nat.lt_succ_self _) se (List.Perm.refl _)
   refine Sa ?_
   refine Ab results107 z1 (fun w1 hw1 => ?_)
   exact ⟨(rq (hF.er1 ((((((((hF3.pos hq1).neg hq2).neg hq3).neg hq4).f hq10).neg hq11).neg hq12).pos hq13))), hw1.ext_out⟩
  refine Bl (Ai Kw) (k := ?_)
  refine bK ?_
  refine Mq ?_
  refine Mq ?_
  refine Bl yS (k := ?_)
  refine Bl (Cb (n := l.length) runUnderlying50 sizeOf62 ((((i_1 : Nat) : Int) - 1).toNat) bP (gD z3) Jv) (k := ?_)
  refine Bl (Pa Kw) (k := ?_)
  refine Bl (Bz isAgg3 ((((i_1 : Nat) : Int) - 1).toNat) 0 bP (gD z3)) (k := ?_)
  refine Bl Pt (k := ?_)
  refine Bl Hh (k := ?_)
  refine oL ?_
  refine Fm 38 rfl (fun hq5 => ?_) (fun hq5 => ?_)
  ·refine Bm 4 rfl ?_
   refine fR ?_
   refine fH ?_
   refine Bm 5 rfl ?_
   refine fR ?_
   refine jL ?_
   refine Ab results107 z1 (fun w1 hw1 => ?_)
   exact ⟨(rq (hF.er1 (((((hF3.pos hq1).neg hq2).neg hq3).pos hq4).pos hq5))), hw1.ext_out⟩
  refine Bl (Ai Ug) (k := ?_)
  refine AQ0 ?_
  refine Bl Lv (k := ?_)
  refine oL ?_
  refine Jz 44 rfl (fun hq6 => ?_) (fun hq6 => ?_)
  ·refine Bm 3 rfl ?_
   refine fH ?_
   refine Bm 5 rfl ?_
   refine fR ?_
   refine jL ?_
   refine Ab results107 z1 (fun w1 hw1 => ?_)
   exact ⟨(rq (hF.er1 ((((((hF3.pos hq1).neg hq2).neg hq3).pos hq4).neg hq5).t hq6))), hw1.ext_out⟩
  refine N7 ?_
  refine Bl Ps (k := ?_)
  refine oL ?_
  refine Fm 49 rfl (fun hq7 => ?_) (fun hq7 => ?_)
  ·refine Bm 5 rfl ?_
   refine fR ?_
   refine jL ?_
   refine Ab results107 z1 (fun w1 hw1 => ?_)
   exact ⟨(rq (hF.er1 (((((((hF3.pos hq1).neg hq2).neg hq3).pos hq4).neg hq5).f hq6).pos hq7))), hw1.ext_out⟩
  refine N7 ?_
  refine N8 ?_
  refine Bl Ki (k := ?_)
  refine oL ?_
  refine Fm 56 rfl (fun hq8 => ?_) (fun hq8 => ?_)
  ·refine Bm 3 rfl ?_
   refine jL ?_
   refine Ab results107 z1 (fun w1 hw1 => ?_)
   exact ⟨(rq (hF.er1 ((((((((hF3.pos hq1).neg hq2).neg hq3).pos hq4).neg hq5).f hq6).neg hq7).pos hq8))), hw1.ext_out⟩
  refine N8 ?_
  refine Bl Lu (k := ?_)
  refine Xf ?_
  refine Au rfl (fun hq9 => ?_) (fun hq9 => ?_)
  rotate_left
  ·refine Bq ?_
   refine Po ?_
   refine Cj _ Nr ?_
   exact Dp n_2 (i_1 + 1) ⟨by omega, (((((((((hF3.pos hq1).neg hq2).neg hq3).pos hq4).neg hq5).f hq6).neg hq7).neg hq8).neg hq9), z2⟩ (Nat.lt_succ_self _) se (List.Perm.refl _)
  refine Sa ?_
  refine Ab results107 z1 (fun w1 hw1 => ?_)
  exact ⟨(rq (hF.er1 (((((((((hF3.pos hq1).neg hq2).neg hq3).pos hq4).neg hq5).f hq6).neg hq7).neg hq8).pos hq9))), hw1.ext_out⟩

theorem vM (w : World) {a_a : Option Addr} {a_c : Nat} {b_a : Option Addr} {b_c : Nat} {a : List Bw} {b : List Bw} (h_a : Sl w Fq 4 a_a a) (n_a : a.length ≤ 1001) (h_b : Sl w Fq 4 b_a b) (n_b : b.length ≤ 1001) : Hn Tryz.prog 63 [(vs a_a a.length a_c), (vs b_a b.length b_c)] w (Value.bool (dV a b)) := by
 have hF := Is.refl (dV a b)
 refine enter func63 ntmps63 (h := ?_)
 refine Ig ?_
 refine cX ?_
 refine Cg ?_
 refine cX ?_
 refine Vy ?_
 refine Au rfl (fun hq1 => ?_) (fun hq1 => ?_)
 ·refine Bg ?_
  refine Kz ?_
  refine Ab results63 z1 (fun w1 hw1 => ?_)
  exact ⟨(rq (hF.pos hq1)), hw1.ext_out⟩
 refine Js ?_
 refine Pn ?_
 refine Dr (σ1 := Nat) (σ2 := Nat) (fun n_2 i_1 => []) (fun n_2 i_1 => [(0, (vs a_a a.length a_c)), (1, (vs b_a b.length b_c)), (4, (Value.bool false)), (5, (vi ((i_1 : Nat) : Int)))]) (fun n_2 i_1 => a.length - i_1 < n_2 ∧ Is (Jk a b (a.length + 1) 0) (Jk a b n_2 i_1) ∧ i_1 ≤ a.length) (fun n_2 i_1 => n_2) (a.length + 1) 0 ?_ se (List.Perm.refl _) ?_
 ·exact ⟨Nat.lt_succ_self _, Is.refl _, Kh⟩
 ·rintro (_ | n_2) i_1 ⟨hm4, hF3, hi5⟩
  ·omega
  refine cU ?_
  refine cX ?_
  refine Z9 ?_
  refine Au rfl (fun hq2 => ?_) (fun hq2 => ?_)
  rotate_left
  ·refine Ca ?_
   refine La ?_
   refine Ab results63 z1 (fun w1 hw1 => ?_)
   exact ⟨(rq ((hF.neg hq1).ok1 (hF3.neg hq2))), hw1.ext_out⟩
  refine jJ ?_
  refine Y2 ?_
  refine Aw (Cb (n := a.length) runUnderlying50 sizeOf62 i_1 (Bp.of_base h_a) (gD z3) Jv) (k := ?_)
  refine Aw (Cn isAgg62 sizeOf62 i_1 (Bp.of_base h_a) (gD z3)) (k := ?_)
  refine Xa ?_
  refine Aw (Cb (n := b.length) runUnderlying50 sizeOf62 i_1 (Bp.of_base h_b) (gD z3) Jv) (k := ?_)
  refine Aw (Cn isAgg62 sizeOf62 i_1 (Bp.of_base h_b) (gD z3)) (k := ?_)
  refine Aw (Rl (AA7 _ _ _ _ _ _ _ _ _ _)) (k := ?_)
  refine Xd ?_
  refine Au rfl (fun hq3 => ?_) (fun hq3 => ?_)
  rotate_left
  ·refine Bq ?_
   refine Po ?_
   exact Dp n_2 (i_1 + 1) ⟨by omega, ((hF3.pos hq2).neg hq3), z2⟩ (Nat.lt_succ_self _) se (List.Perm.refl _)
  refine Sa ?_
  refine Ab results63 z1 (fun w1 hw1 => ?_)
  exact ⟨(rq ((hF.neg hq1).er1 ((hF3.pos hq2).pos hq3))), hw1.ext_out⟩

theorem qD (w : World) {s : Ap} (n_s : s.length ≤ 1000000) : Hn Tryz.prog 155 [(vt s)] w (Value.bool (cA s)) := by
 have hF := Is.refl (cA s)
 refine enter func155 ntmps155 (h := ?_)
 refine Z2 ?_
 refine Rw ?_
 refine Pn ?_
 refine Dr (σ1 := Nat) (σ2 := Nat) (fun n_2 i_1 => []) (fun n_2 i_1 => [(0, (vt s)), (2, (Value.bool false)), (3, (vi ((i_1 : Nat) : Int)))]) (fun n_2 i_1 => s.length - i_1 < n_2 ∧ Is (Kn s (s.length + 1) 0) (Kn s n_2 i_1) ∧ i_1 ≤ s.length) (fun n_2 i_1 => n_2) (s.length + 1) 0 ?_ se (List.Perm.refl _) ?_
 ·exact ⟨Nat.lt_succ_self _, Is.refl _, Kh⟩
 ·rintro (_ | n_2) i_1 ⟨hm4, hF3, hi5⟩
  ·omega
  refine cU ?_
  refine yO ?_
  refine Z9 ?_
  refine Au rfl (fun hq1 => ?_) (fun hq1 => ?_)
  rotate_left
  ·refine Ca ?_
   refine La ?_
   refine Ab results155 z1 (fun w1 hw1 => ?_)
   exact ⟨(rq (hF.ok1 (hF3.neg hq1))), hw1.ext_out⟩
  refine fJ ?_
  refine Pk ?_
  have hu12 := AA0 (s.getD i_1 default)
  refine Af (zR (s := s) i_1 runUnderlying9 z3) (k := ?_)
  refine Rx ?_
  refine Ao 14 rfl (fun hq2 => ?_) (fun hq2 => ?_)
  ·refine Ae 4 rfl ?_
   refine Xe ?_
   refine oN ?_
   refine Ab results155 z1 (fun w1 hw1 => ?_)
   exact ⟨(rq (hF.er1 ((hF3.pos hq1).pos hq2))), hw1.ext_out⟩
  refine cN ?_
  have hu17 := AA0 (s.getD i_1 default)
  refine Bb (zR (s := s) i_1 runUnderlying9 z3) (k := ?_)
  refine Bb Lu (k := ?_)
  refine Qh ?_
  refine Au rfl (fun hq3 => ?_) (fun hq3 => ?_)
  rotate_left
  ·refine Bq ?_
   refine Po ?_
   exact Dp n_2 (i_1 + 1) ⟨by omega, (((hF3.pos hq1).neg hq2).neg hq3), z2⟩ (Nat.lt_succ_self _) se (List.Perm.refl _)
  refine Sa ?_
  refine Ab results155 z1 (fun w1 hw1 => ?_)
  exact ⟨(rq (hF.er1 (((hF3.pos hq1).neg hq2).pos hq3))), hw1.ext_out⟩

theorem qE (w : World) {s : Ap} (n_s : s.length ≤ 1000000) : Hn Tryz.prog 135 [(vt s)] w (Value.bool (Yc s)) := by
 have hF := Is.refl (Yc s)
 refine enter func135 ntmps135 (h := ?_)
 refine Ut ?_
 refine yH ?_
 refine Af Pt (k := ?_)
 refine Cg ?_
 refine Ao 6 rfl (fun hq1 => ?_) (fun hq1 => ?_)
 rotate_left
 ·refine Ae 2 rfl ?_
  refine Ky ?_
  refine Ab results135 z1 (fun w1 hw1 => ?_)
  exact ⟨(rq (hF.neg hq1)), hw1.ext_out⟩
 refine Hf ?_
 refine Ih (Ad call155) (fun w1 hw1 => qD w1 (s := s) (n_s := z6)) (k := ?_)
 refine Vv ?_
 refine Ab results135 z1 (fun w1 hw1 => ?_)
 exact ⟨(rq (hF.pos hq1)), hw1.ext_out⟩

theorem vN (w : World) {a_a : Option Addr} {a_c : Nat} {b_a : Option Addr} {b_c : Nat} {a : List Ap} {b : List Ap} (h_a : Sl w eS 1 a_a a) (n_a : a.length ≤ 1000) (h_b : Sl w eS 1 b_a b) (n_b : b.length ≤ 1000) : Hn Tryz.prog 33 [(vs a_a a.length a_c), (vs b_a b.length b_c)] w (Value.bool (Zq a b)) := by
 have hF := Is.refl (Zq a b)
 refine enter func33 ntmps33 (h := ?_)
 refine Ig ?_
 refine Af (Ei runUnderlying66) (k := ?_)
 refine Cg ?_
 refine Af (Ei runUnderlying66) (k := ?_)
 refine Vy ?_
 refine Au rfl (fun hq1 => ?_) (fun hq1 => ?_)
 ·refine Bg ?_
  refine Kz ?_
  refine Ab results33 z1 (fun w1 hw1 => ?_)
  exact ⟨(rq (hF.pos hq1)), hw1.ext_out⟩
 refine Js ?_
 refine Pn ?_
 refine Dr (σ1 := Nat) (σ2 := Nat) (fun n_2 i_1 => []) (fun n_2 i_1 => [(0, (vs a_a a.length a_c)), (1, (vs b_a b.length b_c)), (4, (Value.bool false)), (5, (vi ((i_1 : Nat) : Int)))]) (fun n_2 i_1 => a.length - i_1 < n_2 ∧ Is (Jl a b (a.length + 1) 0) (Jl a b n_2 i_1) ∧ i_1 ≤ a.length) (fun n_2 i_1 => n_2) (a.length + 1) 0 ?_ se (List.Perm.refl _) ?_
 ·exact ⟨Nat.lt_succ_self _, Is.refl _, Kh⟩
 ·rintro (_ | n_2) i_1 ⟨hm4, hF3, hi5⟩
  ·omega
  refine cU ?_
  refine Af (Ei runUnderlying66) (k := ?_)
  refine Z9 ?_
  refine Au rfl (fun hq2 => ?_) (fun hq2 => ?_)
  rotate_left
  ·refine Ca ?_
   refine La ?_
   refine Ab results33 z1 (fun w1 hw1 => ?_)
   exact ⟨(rq ((hF.neg hq1).ok1 (hF3.neg hq2))), hw1.ext_out⟩
  refine jJ ?_
  refine Y2 ?_
  refine Aw (Cb (n := a.length) runUnderlying66 sizeOf9 i_1 (Bp.of_base h_a) (gD z3) Jv) (k := ?_)
  refine Aw (Bz isAgg9 i_1 0 (Bp.of_base h_a) (gD z3)) (k := ?_)
  refine Xa ?_
  refine Aw (Cb (n := b.length) runUnderlying66 sizeOf9 i_1 (Bp.of_base h_b) (gD z3) Jv) (k := ?_)
  refine Aw (Bz isAgg9 i_1 0 (Bp.of_base h_b) (gD z3)) (k := ?_)
  refine Aw Z3 (k := ?_)
  refine Xd ?_
  refine Au rfl (fun hq3 => ?_) (fun hq3 => ?_)
  rotate_left
  ·refine Bq ?_
   refine Po ?_
   exact Dp n_2 (i_1 + 1) ⟨by omega, ((hF3.pos hq2).neg hq3), z2⟩ (Nat.lt_succ_self _) se (List.Perm.refl _)
  refine Sa ?_
  refine Ab results33 z1 (fun w1 hw1 => ?_)
  exact ⟨(rq ((hF.neg hq1).er1 ((hF3.pos hq2).pos hq3))), hw1.ext_out⟩

end Go.Proofs.YtopjaeoklkpcpaaGreatDoor.Jd

namespace Go.Proofs.YtopjaeoklkpcpaaGreatDoor.Jd
open Go.Proofs.Tryz
open Go.Proofs
open Go.RowKit (Below)
set_option maxRecDepth 100000
set_option maxHeartbeats 8000000
set_option linter.unusedVariables false
set_option linter.unusedSimpArgs false
def DT (w : World) (x : Aa) (t : TA) : Prop := Sl w Et 5 t.ra x.rules ∧ Sl w Fq 4 t.ca x.creds ∧ x.rules.length ≤ t.rc ∧ x.creds.length ≤ t.cc
theorem Dc : kE DT := fun w w' x t hc h => ⟨h.1.cmono hc, h.2.1.cmono hc, h.2.2⟩
def Bu (x : Aa × TA) : List Value := [vi x.1.handle.slot, vi x.1.handle.gen, Value.string (bs x.1.name), vi x.1.state, vi x.1.version, vs x.2.ra x.1.rules.length x.2.rc, vs x.2.ca x.1.creds.length x.2.cc, vi x.1.deadline]
theorem Av : Dj Bu 8 := ⟨by omega, fun _ => rfl, fun _ => rfl⟩
theorem Yn : Bo Tryz.prog 28 0 0 := fun r k w => by simp [Instr.fieldAt, Instr.sureAddr, fieldPlace, Bc]
theorem Kf : Bo Tryz.prog 28 1 3 := fun r k w => by simp [Instr.fieldAt, Instr.sureAddr, fieldPlace, Bc]
theorem Ol : Bo Tryz.prog 28 2 4 := fun r k w => by simp [Instr.fieldAt, Instr.sureAddr, fieldPlace, Bc]
theorem Kg : Bo Tryz.prog 52 0 0 := fun r k w => by simp [Instr.fieldAt, Instr.sureAddr, fieldPlace, Bc]
theorem Om : Bo Tryz.prog 52 1 2 := fun r k w => by simp [Instr.fieldAt, Instr.sureAddr, fieldPlace, Bc]
theorem Uh : Bo Tryz.prog 52 2 3 := fun r k w => by simp [Instr.fieldAt, Instr.sureAddr, fieldPlace, Bc]
theorem Qv : Bo Tryz.prog 52 3 4 := fun r k w => by simp [Instr.fieldAt, Instr.sureAddr, fieldPlace, Bc]
theorem Oo : Bo Tryz.prog 52 4 5 := fun r k w => by simp [Instr.fieldAt, Instr.sureAddr, fieldPlace, Bc]
theorem Qw : Bo Tryz.prog 52 5 6 := fun r k w => by simp [Instr.fieldAt, Instr.sureAddr, fieldPlace, Bc]
theorem cE : Bo Tryz.prog 52 6 7 := fun r k w => by simp [Instr.fieldAt, Instr.sureAddr, fieldPlace, Bc]
theorem Kx : Bo Tryz.prog 88 0 0 := fun r k w => by simp [Instr.fieldAt, Instr.sureAddr, fieldPlace, Bc]
theorem T8 : Bo Tryz.prog 88 1 8 := fun r k w => by simp [Instr.fieldAt, Instr.sureAddr, fieldPlace, Bc]
theorem F3 : Hq Tryz.prog 88 [(0, 8), (8, 1)] := ⟨_, fun w => runUnderlying88 w, fun w => by simp⟩
theorem eM (w : World) {s : Ap} : Hn Tryz.prog 92 [(vt s)] w (Value.bool (Hk s)) := by
 have hF := Is.refl (Hk s)
 refine enter func92 ntmps92 (h := ?_)
 refine Ut ?_
 refine Z4 ?_
 refine Af Z3 (k := ?_)
 refine Cg ?_
 refine Ao 5 rfl (fun hq1 => ?_) (fun hq1 => ?_)
 rotate_left
 ·refine Ae 3 rfl ?_
  refine oV ?_
  refine Ky ?_
  refine Ab results92 z1 (fun w1 hw1 => ?_)
  exact ⟨(rq (hF.neg hq1)), hw1.ext_out⟩
 refine O0 ?_
 refine cW ?_
 refine Pj ?_
 refine Ao 10 rfl (fun hq2 => ?_) (fun hq2 => ?_)
 rotate_left
 ·refine Ae 2 rfl ?_
  refine Ky ?_
  refine Ab results92 z1 (fun w1 hw1 => ?_)
  exact ⟨(rq ((hF.pos hq1).neg hq2)), hw1.ext_out⟩
 refine Hf ?_
 refine Ih (Ad call130) (fun w1 hw1 => vD w1 (s := s)) (k := ?_)
 refine Vv ?_
 refine Ab results92 z1 (fun w1 hw1 => ?_)
 exact ⟨(rq ((hF.pos hq1).pos hq2)), hw1.ext_out⟩

theorem gM (w : World) {t_1_rules_a : Option Addr} {t_1_rules_c : Nat} {t_1_creds_a : Option Addr} {t_1_creds_c : Nat} {t : (Aa × Int)} (h_t_1_rules : Sl w Et 5 t_1_rules_a t.1.rules) (h_t_1_creds : Sl w Fq 4 t_1_creds_a t.1.creds) : Hn Tryz.prog 54 [(Value.agg [(vi t.1.handle.slot), (vi t.1.handle.gen), (vt t.1.name), (vi t.1.state), (vi t.1.version), (vs t_1_rules_a t.1.rules.length t_1_rules_c), (vs t_1_creds_a t.1.creds.length t_1_creds_c), (vi t.1.deadline), (vi t.2)].toArray)] w (Value.bool (Ix t)) := by
 have hF := Is.refl (Ix t)
 refine enter func54 ntmps54 (h := ?_)
 refine Z2 ?_
 refine Ah Ag z75 (k := fun r1 hr1 => ?_)
 refine Jr ?_
 refine gB ?_
 refine yA ?_
 refine cP ?_
 refine Ao 7 rfl (fun hq1 => ?_) (fun hq1 => ?_)
 rotate_left
 ·refine Ae 6 rfl ?_
  refine Ky ?_
  refine Ab results54 z1 (fun w1 hw1 => ?_)
  exact ⟨(rq (hF.neg hq1)), hw1.ext_out⟩
 refine jS ?_
 refine lK ?_
 refine Bb (Ai T8) (k := ?_)
 refine yC ?_
 refine Vv ?_
 refine Ab results54 z1 (fun w1 hw1 => ?_)
 exact ⟨(rq (hF.pos hq1)), hw1.ext_out⟩

theorem gN (w : World) {t_1_rules_a : Option Addr} {t_1_rules_c : Nat} {t_1_creds_a : Option Addr} {t_1_creds_c : Nat} {t : (Aa × Int)} (h_t_1_rules : Sl w Et 5 t_1_rules_a t.1.rules) (h_t_1_creds : Sl w Fq 4 t_1_creds_a t.1.creds) : Hn Tryz.prog 55 [(Value.agg [(vi t.1.handle.slot), (vi t.1.handle.gen), (vt t.1.name), (vi t.1.state), (vi t.1.version), (vs t_1_rules_a t.1.rules.length t_1_rules_c), (vs t_1_creds_a t.1.creds.length t_1_creds_c), (vi t.1.deadline), (vi t.2)].toArray)] w (Value.bool (Iy t)) := by
 have hF := Is.refl (Iy t)
 refine enter func55 ntmps55 (h := ?_)
 refine Z2 ?_
 refine Ah Ag z75 (k := fun r1 hr1 => ?_)
 refine Jr ?_
 refine gB ?_
 refine oR ?_
 refine cP ?_
 refine Ao 7 rfl (fun hq1 => ?_) (fun hq1 => ?_)
 rotate_left
 ·refine Ae 4 rfl ?_
  refine Rv ?_
  refine Ae 4 rfl ?_
  refine Rv ?_
  refine Ae 4 rfl ?_
  refine Rv ?_
  refine Ae 10 rfl ?_
  refine Ky ?_
  refine Ab results55 z1 (fun w1 hw1 => ?_)
  exact ⟨(rq (hF.neg hq1)), hw1.ext_out⟩
 refine jS ?_
 refine jD ?_
 refine cW ?_
 refine Pj ?_
 refine Ao 13 rfl (fun hq2 => ?_) (fun hq2 => ?_)
 rotate_left
 ·refine Ae 4 rfl ?_
  refine Rv ?_
  refine Ae 4 rfl ?_
  refine Rv ?_
  refine Ae 10 rfl ?_
  refine Ky ?_
  refine Ab results55 z1 (fun w1 hw1 => ?_)
  exact ⟨(rq ((hF.pos hq1).neg hq2)), hw1.ext_out⟩
 refine jS ?_
 refine cL ?_
 refine Bb Ki (k := ?_)
 refine Pj ?_
 refine Ao 19 rfl (fun hq3 => ?_) (fun hq3 => ?_)
 rotate_left
 ·refine Ae 4 rfl ?_
  refine Rv ?_
  refine Ae 10 rfl ?_
  refine Ky ?_
  refine Ab results55 z1 (fun w1 hw1 => ?_)
  exact ⟨(rq (((hF.pos hq1).pos hq2).neg hq3)), hw1.ext_out⟩
 refine jS ?_
 refine cL ?_
 refine cW ?_
 refine Pj ?_
 refine Ao 25 rfl (fun hq4 => ?_) (fun hq4 => ?_)
 rotate_left
 ·refine Ae 10 rfl ?_
  refine Ky ?_
  refine Ab results55 z1 (fun w1 hw1 => ?_)
  exact ⟨(rq ((((hF.pos hq1).pos hq2).pos hq3).neg hq4)), hw1.ext_out⟩
 refine jS ?_
 refine cL ?_
 refine Bb Nv (k := ?_)
 refine Hf ?_
 refine Ao 30 rfl (fun hq5 => ?_) (fun hq5 => ?_)
 ·refine Ae 4 rfl ?_
  refine Bb Hh (k := ?_)
  refine Vv ?_
  refine Ab results55 z1 (fun w1 hw1 => ?_)
  exact ⟨(rq (((((hF.pos hq1).pos hq2).pos hq3).pos hq4).pos hq5)), hw1.ext_out⟩
 refine jS ?_
 refine jD ?_
 refine Bb Nv (k := ?_)
 refine Bb Hy (k := ?_)
 refine Vv ?_
 refine Ab results55 z1 (fun w1 hw1 => ?_)
 exact ⟨(rq (((((hF.pos hq1).pos hq2).pos hq3).pos hq4).neg hq5)), hw1.ext_out⟩

theorem nH (w : World) {t_1_rules_a : Option Addr} {t_1_rules_c : Nat} {t_1_creds_a : Option Addr} {t_1_creds_c : Nat} {t : (Aa × Int)} (h_t_1_rules : Sl w Et 5 t_1_rules_a t.1.rules) (n_t_1_rules : t.1.rules.length ≤ 1000) (h_t_1_creds : Sl w Fq 4 t_1_creds_a t.1.creds) (n_t_1_creds : t.1.creds.length ≤ 1000) : Hn Tryz.prog 56 [(Value.agg [(vi t.1.handle.slot), (vi t.1.handle.gen), (vt t.1.name), (vi t.1.state), (vi t.1.version), (vs t_1_rules_a t.1.rules.length t_1_rules_c), (vs t_1_creds_a t.1.creds.length t_1_creds_c), (vi t.1.deadline), (vi t.2)].toArray)] w (Value.bool (Ng t)) := by
 have hF := Is.refl (Ng t)
 refine enter func56 ntmps56 (h := ?_)
 refine Z2 ?_
 refine Ah Ag z75 (k := fun r1 hr1 => ?_)
 refine Jr ?_
 refine gB ?_
 refine oS ?_
 refine Fu (Ad call92) (fun w1 hw1 => eM w1 (s := t.1.name)) (k := ?_)
 refine Cg ?_
 refine Di 7 rfl (fun hq1 => ?_) (fun hq1 => ?_)
 rotate_left
 ·refine Ae 4 rfl ?_
  refine Rv ?_
  refine Ae 4 rfl ?_
  refine Ky ?_
  refine Ab results56 z1 (fun w1 hw1 => ?_)
  exact ⟨(rq (hF.f hq1)), hw1.ext_out⟩
 refine jS ?_
 refine xY ?_
 refine Ih (Ad call93) (fun w1 hw1 => aN w1 (l := t.1.rules) (h_l := (Bp.of_base h_t_1_rules) w1 hw1) (n_l := z6)) (k := ?_)
 refine Pj ?_
 refine Di 13 rfl (fun hq2 => ?_) (fun hq2 => ?_)
 rotate_left
 ·refine Ae 4 rfl ?_
  refine Ky ?_
  refine Ab results56 z1 (fun w1 hw1 => ?_)
  exact ⟨(rq ((hF.t hq1).f hq2)), hw1.ext_out⟩
 refine jS ?_
 refine tL ?_
 refine Ih (Ad call57) (fun w1 hw1 => iK w1 (l := t.1.creds) (h_l := (Bp.of_base h_t_1_creds) w1 hw1) (n_l := z6)) (k := ?_)
 refine Vv ?_
 refine Ab results56 z1 (fun w1 hw1 => ?_)
 exact ⟨(rq ((hF.t hq1).t hq2)), hw1.ext_out⟩

theorem T9 (w : World) {s1_a : Option Addr} {s1_c : Nat} {s2_a : Option Addr} {s2_c : Nat} {s1 : List Bf} {s2 : List Bf} (h_s1 : Sl w Et 5 s1_a s1) (n_s1 : s1.length ≤ 1000) (h_s2 : Sl w Et 5 s2_a s2) (n_s2 : s2.length ≤ 1000) : Hn Tryz.prog 103 [(vs s1_a s1.length s1_c), (vs s2_a s2.length s2_c)] w (Value.bool (B6 s1 s2)) := by
 have hF := Is.refl (B6 s1 s2)
 refine enter func103 ntmps103 (h := ?_)
 refine Ig ?_
 refine Zh ?_
 refine Cg ?_
 refine Zh ?_
 refine Vy ?_
 refine Au rfl (fun hq1 => ?_) (fun hq1 => ?_)
 ·refine Bg ?_
  refine Kz ?_
  refine Ab results103 z1 (fun w1 hw1 => ?_)
  exact ⟨(rq (hF.pos hq1)), hw1.ext_out⟩
 refine Js ?_
 refine P5 ?_
 refine Lq ?_
 refine Dr (σ1 := Nat) (σ2 := Nat) (fun n_2 x_1 => []) (fun n_2 x_1 => [(0, (vs s1_a s1.length s1_c)), (1, (vs s2_a s2.length s2_c)), (4, (Value.bool false)), (12, (vi ((s1.length : Nat) : Int))), (13, (vi ((x_1 : Nat) : Int)))]) (fun n_2 x_1 => s1.length - x_1 < n_2 ∧ Is (Oj s1 s2 (s1.length + 1) 0) (Oj s1 s2 n_2 x_1) ∧ x_1 ≤ s1.length) (fun n_2 x_1 => n_2) (s1.length + 1) 0 ?_ se (List.Perm.refl _) ?_
 ·exact ⟨Nat.lt_succ_self _, Is.refl _, Kh⟩
 ·rintro (_ | n_2) x_1 ⟨hm4, hF3, hi5⟩
  ·omega
  refine Zd ?_
  refine Au rfl (fun hq2 => ?_) (fun hq2 => ?_)
  rotate_left
  ·refine Ca ?_
   refine La ?_
   refine Ab results103 z1 (fun w1 hw1 => ?_)
   exact ⟨(rq ((hF.neg hq1).ok1 (hF3.neg hq2))), hw1.ext_out⟩
  refine fJ ?_
  refine Z4 ?_
  refine Rw ?_
  refine Y2 ?_
  refine Aw (Cb (n := s1.length) runUnderlying49 sizeOf34 x_1 (Bp.of_base h_s1) (gD z3) Jv) (k := ?_)
  refine Aw (Cn isAgg34 sizeOf34 x_1 (Bp.of_base h_s1) (gD z3)) (k := ?_)
  refine Xa ?_
  refine Aw (Cb (n := s2.length) runUnderlying49 sizeOf34 x_1 (Bp.of_base h_s2) (gD z3) Jv) (k := ?_)
  refine Aw (Cn isAgg34 sizeOf34 x_1 (Bp.of_base h_s2) (gD z3)) (k := ?_)
  refine Aw (Rl (AA6 _ _ _ _ _ _ _ _ _ _ _ _)) (k := ?_)
  refine Xd ?_
  refine Au rfl (fun hq3 => ?_) (fun hq3 => ?_)
  rotate_left
  ·refine Bq ?_
   refine jC ?_
   exact Dp n_2 (x_1 + 1) ⟨by omega, ((hF3.pos hq2).neg hq3), z2⟩ (Nat.lt_succ_self _) se (List.Perm.refl _)
  refine Sa ?_
  refine Ab results103 z1 (fun w1 hw1 => ?_)
  exact ⟨(rq ((hF.neg hq1).er1 ((hF3.pos hq2).pos hq3))), hw1.ext_out⟩

theorem U0 (w : World) {s1_a : Option Addr} {s1_c : Nat} {s2_a : Option Addr} {s2_c : Nat} {s1 : List Bw} {s2 : List Bw} (h_s1 : Sl w Fq 4 s1_a s1) (n_s1 : s1.length ≤ 1000) (h_s2 : Sl w Fq 4 s2_a s2) (n_s2 : s2.length ≤ 1000) : Hn Tryz.prog 104 [(vs s1_a s1.length s1_c), (vs s2_a s2.length s2_c)] w (Value.bool (B7 s1 s2)) := by
 have hF := Is.refl (B7 s1 s2)
 refine enter func104 ntmps104 (h := ?_)
 refine Ig ?_
 refine cX ?_
 refine Cg ?_
 refine cX ?_
 refine Vy ?_
 refine Au rfl (fun hq1 => ?_) (fun hq1 => ?_)
 ·refine Bg ?_
  refine Kz ?_
  refine Ab results104 z1 (fun w1 hw1 => ?_)
  exact ⟨(rq (hF.pos hq1)), hw1.ext_out⟩
 refine Js ?_
 refine Z4 ?_
 refine P4 ?_
 refine Dr (σ1 := Nat) (σ2 := Nat) (fun n_2 x_1 => []) (fun n_2 x_1 => [(0, (vs s1_a s1.length s1_c)), (1, (vs s2_a s2.length s2_c)), (4, (Value.bool false)), (12, (vi ((s1.length : Nat) : Int))), (13, (vi ((x_1 : Nat) : Int)))]) (fun n_2 x_1 => s1.length - x_1 < n_2 ∧ Is (Ok s1 s2 (s1.length + 1) 0) (Ok s1 s2 n_2 x_1) ∧ x_1 ≤ s1.length) (fun n_2 x_1 => n_2) (s1.length + 1) 0 ?_ se (List.Perm.refl _) ?_
 ·exact ⟨Nat.lt_succ_self _, Is.refl _, Kh⟩
 ·rintro (_ | n_2) x_1 ⟨hm4, hF3, hi5⟩
  ·omega
  refine Zd ?_
  refine Au rfl (fun hq2 => ?_) (fun hq2 => ?_)
  rotate_left
  ·refine Ca ?_
   refine La ?_
   refine Ab results104 z1 (fun w1 hw1 => ?_)
   exact ⟨(rq ((hF.neg hq1).ok1 (hF3.neg hq2))), hw1.ext_out⟩
  refine fJ ?_
  refine Z4 ?_
  refine Rw ?_
  refine Y2 ?_
  refine Aw (Cb (n := s1.length) runUnderlying50 sizeOf62 x_1 (Bp.of_base h_s1) (gD z3) Jv) (k := ?_)
  refine Aw (Cn isAgg62 sizeOf62 x_1 (Bp.of_base h_s1) (gD z3)) (k := ?_)
  refine Xa ?_
  refine Aw (Cb (n := s2.length) runUnderlying50 sizeOf62 x_1 (Bp.of_base h_s2) (gD z3) Jv) (k := ?_)
  refine Aw (Cn isAgg62 sizeOf62 x_1 (Bp.of_base h_s2) (gD z3)) (k := ?_)
  refine Aw (Rl (AA7 _ _ _ _ _ _ _ _ _ _)) (k := ?_)
  refine Xd ?_
  refine Au rfl (fun hq3 => ?_) (fun hq3 => ?_)
  rotate_left
  ·refine Bq ?_
   refine jC ?_
   exact Dp n_2 (x_1 + 1) ⟨by omega, ((hF3.pos hq2).neg hq3), z2⟩ (Nat.lt_succ_self _) se (List.Perm.refl _)
  refine Sa ?_
  refine Ab results104 z1 (fun w1 hw1 => ?_)
  exact ⟨(rq ((hF.neg hq1).er1 ((hF3.pos hq2).pos hq3))), hw1.ext_out⟩

theorem qF (w : World) {a_rules_a : Option Addr} {a_rules_c : Nat} {a_creds_a : Option Addr} {a_creds_c : Nat} {b_rules_a : Option Addr} {b_rules_c : Nat} {b_creds_a : Option Addr} {b_creds_c : Nat} {a : Aa} {b : Aa} (h_a_rules : Sl w Et 5 a_rules_a a.rules) (n_a_rules : a.rules.length ≤ 1000) (h_a_creds : Sl w Fq 4 a_creds_a a.creds) (n_a_creds : a.creds.length ≤ 1000) (h_b_rules : Sl w Et 5 b_rules_a b.rules) (n_b_rules : b.rules.length ≤ 1000) (h_b_creds : Sl w Fq 4 b_creds_a b.creds) (n_b_creds : b.creds.length ≤ 1000) : Hn Tryz.prog 62 [(Value.agg [(vi a.handle.slot), (vi a.handle.gen), (vt a.name), (vi a.state), (vi a.version), (vs a_rules_a a.rules.length a_rules_c), (vs a_creds_a a.creds.length a_creds_c), (vi a.deadline)].toArray), (Value.agg [(vi b.handle.slot), (vi b.handle.gen), (vt b.name), (vi b.state), (vi b.version), (vs b_rules_a b.rules.length b_rules_c), (vs b_creds_a b.creds.length b_creds_c), (vi b.deadline)].toArray)] w (Value.bool (Ud a b)) := by
 have hF := Is.refl (Ud a b)
 refine enter func62 ntmps62 (h := ?_)
 refine Z2 ?_
 refine Ah Ag z61 (k := fun r1 hr1 => ?_)
 refine Ah Ag z61 (k := fun r2 hr2 => ?_)
 refine Jr ?_
 refine N3 ?_
 refine N3 ?_
 refine Af (mH (D6 _ _ _ _ _ _)) (k := ?_)
 refine Cg ?_
 refine Ao 10 rfl (fun hq1 => ?_) (fun hq1 => ?_)
 rotate_left
 ·refine Ae 5 rfl ?_
  refine bD ?_
  refine bD ?_
  refine fK ?_
  refine Ky ?_
  refine Ab results62 z1 (fun w1 hw1 => ?_)
  exact ⟨(rq (hF.neg hq1)), hw1.ext_out⟩
 refine N9 ?_
 refine N9 ?_
 refine Bb mN (k := ?_)
 refine Pj ?_
 refine Ao 17 rfl (fun hq2 => ?_) (fun hq2 => ?_)
 rotate_left
 ·refine Ae 5 rfl ?_
  refine bD ?_
  refine bD ?_
  refine Ky ?_
  refine Ab results62 z1 (fun w1 hw1 => ?_)
  exact ⟨(rq ((hF.pos hq1).neg hq2)), hw1.ext_out⟩
 refine jD ?_
 refine jD ?_
 refine lV ?_
 refine Ao 24 rfl (fun hq3 => ?_) (fun hq3 => ?_)
 rotate_left
 ·refine Ae 5 rfl ?_
  refine bD ?_
  refine fK ?_
  refine Ky ?_
  refine Ab results62 z1 (fun w1 hw1 => ?_)
  exact ⟨(rq (((hF.pos hq1).pos hq2).neg hq3)), hw1.ext_out⟩
 refine lK ?_
 refine lK ?_
 refine lV ?_
 refine Ao 31 rfl (fun hq4 => ?_) (fun hq4 => ?_)
 rotate_left
 ·refine Ae 5 rfl ?_
  refine bD ?_
  refine Ky ?_
  refine Ab results62 z1 (fun w1 hw1 => ?_)
  exact ⟨(rq ((((hF.pos hq1).pos hq2).pos hq3).neg hq4)), hw1.ext_out⟩
 refine cL ?_
 refine cL ?_
 refine lV ?_
 refine Ao 38 rfl (fun hq5 => ?_) (fun hq5 => ?_)
 rotate_left
 ·refine Ae 5 rfl ?_
  refine fK ?_
  refine Ky ?_
  refine Ab results62 z1 (fun w1 hw1 => ?_)
  exact ⟨(rq (((((hF.pos hq1).pos hq2).pos hq3).pos hq4).neg hq5)), hw1.ext_out⟩
 refine xY ?_
 refine xY ?_
 refine Ih (Ad call103) (fun w1 hw1 => T9 w1 (s1 := a.rules) (s2 := b.rules) (h_s1 := (Bp.of_base h_a_rules) w1 hw1) (n_s1 := z6) (h_s2 := (Bp.of_base h_b_rules) w1 hw1) (n_s2 := z6)) (k := ?_)
 refine Pj ?_
 refine Di 45 rfl (fun hq6 => ?_) (fun hq6 => ?_)
 rotate_left
 ·refine Ae 5 rfl ?_
  refine Ky ?_
  refine Ab results62 z1 (fun w1 hw1 => ?_)
  exact ⟨(rq ((((((hF.pos hq1).pos hq2).pos hq3).pos hq4).pos hq5).f hq6)), hw1.ext_out⟩
 refine tL ?_
 refine tL ?_
 refine Ih (Ad call104) (fun w1 hw1 => U0 w1 (s1 := a.creds) (s2 := b.creds) (h_s1 := (Bp.of_base h_a_creds) w1 hw1) (n_s1 := z6) (h_s2 := (Bp.of_base h_b_creds) w1 hw1) (n_s2 := z6)) (k := ?_)
 refine Vv ?_
 refine Ab results62 z1 (fun w1 hw1 => ?_)
 exact ⟨(rq ((((((hF.pos hq1).pos hq2).pos hq3).pos hq4).pos hq5).t hq6)), hw1.ext_out⟩

theorem iL (w : World) {r_Sg_a : Option Addr} {r_Sg_c : Nat} {r_Su_a : Option Addr} {r_Su_c : Nat} {r_Sf_a : Option Addr} {r_Sf_c : Nat} {r_l_a : Option Addr} {r_l_c : Nat} {r_l_t : List TA} {r : Ac} {name : Ap} (h_r_Sg : Sl w eI 1 r_Sg_a r.slots.gens) (n_r_Sg : r.slots.gens.length ≤ 1000) (h_r_Su : Sl w eB 1 r_Su_a r.slots.used) (n_r_Su : r.slots.used.length ≤ 1000) (h_r_Sf : Sl w eI 1 r_Sf_a r.slots.free) (n_r_Sf : r.slots.free.length ≤ 1000) (h_r_l : Rm w Bu 8 DT r_l_a r.l r_l_t) (n_r_l : r.l.length ≤ 1000) (k_r_l : r.l.length ≤ r_l_c) : Hn Tryz.prog 46 [(Value.agg [(vs r_Sg_a r.slots.gens.length r_Sg_c), (vs r_Su_a r.slots.used.length r_Su_c), (vs r_Sf_a r.slots.free.length r_Sf_c), (vs r_l_a r.l.length r_l_c), (vi r.seq)].toArray), (vt name)] w (Value.tuple [(vi ((Am r name).1)), (Value.bool ((Am r name).2))].toArray) := by
 have hF := Is.refl (Am r name)
 refine Wf func46 ntmps46 (h := ?_)
 refine Z2 ?_
 refine Ah Ag Vf (k := fun r1 hr1 => ?_)
 refine Ah Ag (Hi (l := [_])) (k := fun r2 hr2 => ?_)
 refine Ah Ag (Dn (l := [_]) zeroValue3) (k := fun r3 hr3 => ?_)
 refine Ah Ag (Dn (l := [_]) zeroValue4) (k := fun r4 hr4 => ?_)
 refine Me ?_
 refine xW ?_
 refine Z2 ?_
 refine Ah Ag Vf (k := fun r5 hr5 => ?_)
 refine fW ?_
 refine yE ?_
 refine Ij Ag rfl call85 func85 ntmps85 (fun l6 rD6 rr6 hl6 => ?_)
 refine oW ?_
 refine cO ?_
 refine Lq ?_
 refine Dr (σ1 := Nat) (σ2 := Nat) (fun n_2 x_1 => ((l6, Df rr6 .ready none) :: ((rD6, Obj.deferred (some [])) :: ((r5, oc [(vs r_Sg_a r.slots.gens.length r_Sg_c), (vs r_Su_a r.slots.used.length r_Su_c), (vs r_Sf_a r.slots.free.length r_Sf_c), (vs r_l_a r.l.length r_l_c), (vi r.seq)] 28) :: ((r4, oc [(Value.bool false)] 4) :: ((r3, oc [(vi 0)] 3) :: ((r2, oc [(vt name)] 9) :: ((r1, oc [(vs r_Sg_a r.slots.gens.length r_Sg_c), (vs r_Su_a r.slots.used.length r_Su_c), (vs r_Sf_a r.slots.free.length r_Sf_c), (vs r_l_a r.l.length r_l_c), (vi r.seq)] 28) :: [])))))))) (fun n_2 x_1 => [(0, (Value.func (.yield l6) [].toArray [].toArray)), (1, (Value.pointer (some ⟨r5, 0, none⟩))), (6, (vs r_l_a r.l.length r_l_c)), (7, (vi ((r.l.length : Nat) : Int))), (8, (vi ((x_1 : Nat) : Int)))]) (fun n_2 x_1 => r.l.length - x_1 < n_2 ∧ Is (Dz r name (r.l.length + 1) 0) (Dz r name n_2 x_1) ∧ x_1 ≤ r.l.length) (fun n_2 x_1 => n_2) (r.l.length + 1) 0 ?_ se (List.Perm.refl _) ?_
 ·exact ⟨Nat.lt_succ_self _, Is.refl _, Kh⟩
 ·rintro (_ | n_2) x_1 ⟨hm4, hF3, hi5⟩
  ·omega
  refine Zd ?_
  refine Au rfl (fun hq1 => ?_) (fun hq1 => ?_)
  rotate_left
  ·refine Ca ?_
   refine Pl ?_
   refine Kb (.inr rfl) results85 q0 ?_
   refine fY ?_
   refine oY ?_
   refine L3 ?_
   refine Du [rD6] (qa q0) results46 (Fb.word isAgg3 rfl me rfl wX) (fun w1 hw1 => ?_)
   exact ⟨(rq (hF.ok1 (hF3.neg hq1))), hw1.ext_out⟩
  refine fJ ?_
  refine L7 ?_
  have hcp2 := (h_r_l.2.2 x_1 z3).2.2.1
  have hcp3 := (h_r_l.2.2 x_1 z3).2.2.2
  refine Q3 ?_
  refine Ah Ag Ur (k := fun r7 hr7 => ?_)
  refine tU ?_
  refine Pk ?_
  refine yB ?_
  refine dO (vs := [(vi ((x_1 : Nat) : Int)), (Value.agg [(vi ((r.l.getD x_1 default).handle.slot)), (vi ((r.l.getD x_1 default).handle.gen)), (vt ((r.l.getD x_1 default).name)), (vi ((r.l.getD x_1 default).state)), (vi ((r.l.getD x_1 default).version)), (vs ((r_l_t.getD x_1 default).ra) ((r.l.getD x_1 default).rules.length) ((r_l_t.getD x_1 default).rc)), (vs ((r_l_t.getD x_1 default).ca) ((r.l.getD x_1 default).creds.length) ((r_l_t.getD x_1 default).cc)), (vi ((r.l.getD x_1 default).deadline)), (vi r.seq)].toArray)]) hl6 (qa q0) Eo ?_
  refine Ut ?_
  refine Cs ?_
  refine Ah Ag z56 (k := fun r8 hr8 => ?_)
  refine xU ?_
  refine Z95 ?_
  refine Z2 ?_
  refine gB ?_
  refine oS ?_
  refine jR ?_
  refine Af mN (k := ?_)
  refine Z0 ?_
  refine Au rfl (fun hq4 => ?_) (fun hq4 => ?_)
  rotate_left
  ·refine Bq ?_
   refine Pp ?_
   refine Fv q0 ?_
   refine Rj ?_
   refine Xk ?_
   refine Ci _ (((((((qa (qa (qa (qa (qa (qa (qa (qa q0)))))))).trans (qa (qa (qa (qa (qa (qa (qa (qa q0))))))))).trans (qa (qa (qa (qa (qa (qa (qa (qa q0))))))))).trans (qa (qa (qa (qa (qa (qa (qa (qa q0))))))))).trans (qa (qa (qa (qa (qa (qa (qa (qa q0))))))))).trans (qa (qa (qa (qa (qa (qa (qa (qa q0))))))))).trans (qa (qa (qa (qa (qa (qa q0))))))) ?_
   refine Cj _ (List.Sublist.cons_cons _ (List.Sublist.cons_cons _ (List.Sublist.cons_cons _ (List.Sublist.cons_cons _ (List.Sublist.cons_cons _ oJ))))) ?_
   exact Dp n_2 (x_1 + 1) ⟨by omega, ((hF3.pos hq1).neg hq4), z2⟩ (Nat.lt_succ_self _) se (List.Perm.refl _)
  refine Z4 ?_
  refine oY ?_
  refine L3 ?_
  refine Cy ?_
  refine Hc q0 ?_
  refine Rj ?_
  refine tZ ?_
  refine Pl ?_
  refine tR ?_
  refine Z7 ?_
  refine Du [rD6] (qa (qa (qa q0))) results46 (Fb.word isAgg3 rfl me rfl wX) (fun w1 hw1 => ?_)
  exact ⟨(rq (hF.er1 ((hF3.pos hq1).pos hq4))), hw1.ext_out⟩

theorem Ui (w : World) {r_Sg_a : Option Addr} {r_Sg_c : Nat} {r_Su_a : Option Addr} {r_Su_c : Nat} {r_Sf_a : Option Addr} {r_Sf_c : Nat} {r_l_a : Option Addr} {r_l_c : Nat} {r_l_t : List TA} {r : Ac} (h_r_Sg : Sl w eI 1 r_Sg_a r.slots.gens) (n_r_Sg : r.slots.gens.length ≤ 1000) (h_r_Su : Sl w eB 1 r_Su_a r.slots.used) (n_r_Su : r.slots.used.length ≤ 1000) (h_r_Sf : Sl w eI 1 r_Sf_a r.slots.free) (n_r_Sf : r.slots.free.length ≤ 1000) (h_r_l : Rm w Bu 8 DT r_l_a r.l r_l_t) (n_r_l : r.l.length ≤ 1000) (k_r_l : r.l.length ≤ r_l_c) (hsm : Bk r.l) : Hn Tryz.prog 23 [(Value.agg [(vs r_Sg_a r.slots.gens.length r_Sg_c), (vs r_Su_a r.slots.used.length r_Su_c), (vs r_Sf_a r.slots.free.length r_Sf_c), (vs r_l_a r.l.length r_l_c), (vi r.seq)].toArray)] w (Value.bool (Ga r)) := by
 have hF := Is.refl (Ga r)
 refine Wf func23 ntmps23 (h := ?_)
 refine Z2 ?_
 refine Ah Ag Vf (k := fun r1 hr1 => ?_)
 refine Ah Ag (Dn (l := [_]) zeroValue4) (k := fun r2 hr2 => ?_)
 refine Uw ?_
 refine fL ?_
 refine Gy (Ad call48) (fun w1 hw1 => rZ w1 (s := r.slots) (h_s_gens := (Bp.of_base h_r_Sg) w1 hw1) (n_s_gens := z6) (h_s_used := (Bp.of_base h_r_Su) w1 hw1) (n_s_used := z6) (h_s_free := (Bp.of_base h_r_Sf) w1 hw1) (n_s_free := z6)) (k := ?_)
 rintro w1_1 e1_1 w2_1 hw1_1 ⟨a1_1, c1_1, B_1, he_1, hf_1, hs1_1, hl1_1⟩
 refine ⟨_, _, he_1, hw1_1.fresh hf_1, ?_⟩
 refine Ah Ag (Dn (l := [_]) zeroValue90) (k := fun r3 hr3 => ?_)
 refine Gw (Bt (l' := [_]) sizeOf90) (k := ?_)
 refine Me ?_
 refine Z2 ?_
 refine fL ?_
 refine Fu (Ad call52) (fun w1 hw1 => iH w1 (s := r.slots) (h_s_gens := (Bp.of_base h_r_Sg) w1 hw1) (n_s_gens := z6) (h_s_used := (Bp.of_base h_r_Su) w1 hw1) (n_s_used := z6) (h_s_free := (Bp.of_base h_r_Sf) w1 hw1) (n_s_free := z6)) (k := ?_)
 refine oT ?_
 refine Di 14 rfl (fun hq1 => ?_) (fun hq1 => ?_)
 ·refine Ae 3 rfl ?_
  refine Uu ?_
  refine Pj ?_
  refine Ae 6 rfl ?_
  refine Xe ?_
  refine jI ?_
  refine Du [] (List.Perm.refl _) results23 wX (fun w1 hw1 => ?_)
  exact ⟨(rq (hF.t hq1)), hw1.ext_out⟩
 have hfhq1 := Sx tC
 refine cM ?_
 refine Bb Ps (k := ?_)
 refine Rv ?_
 refine Ao 19 rfl (fun hq2 => ?_) (fun hq2 => ?_)
 ·refine Ae 3 rfl ?_
  refine Pj ?_
  refine Ae 6 rfl ?_
  refine Xe ?_
  refine jI ?_
  refine Du [] (List.Perm.refl _) results23 wX (fun w1 hw1 => ?_)
  exact ⟨(rq ((hF.f hq1).pos hq2)), hw1.ext_out⟩
 refine cM ?_
 refine tY ?_
 refine Ao 24 rfl (fun hq3 => ?_) (fun hq3 => ?_)
 ·refine Ae 6 rfl ?_
  refine Xe ?_
  refine jI ?_
  refine Du [] (List.Perm.refl _) results23 wX (fun w1 hw1 => ?_)
  exact ⟨(rq (((hF.f hq1).neg hq2).pos hq3)), hw1.ext_out⟩
 refine Bb (Bv isAgg90) (k := ?_)
 refine Bb (Ei runUnderlying90) (k := ?_)
 refine P3 ?_
 refine Bb Lc (k := ?_)
 refine Qh ?_
 refine Au rfl (fun hq4 => ?_) (fun hq4 => ?_)
 ·refine Bg ?_
  refine Cs ?_
  refine jI ?_
  refine Du [] (List.Perm.refl _) results23 wX (fun w1 hw1 => ?_)
  exact ⟨(rq ((((hF.f hq1).neg hq2).neg hq3).pos hq4)), hw1.ext_out⟩
 refine Rr ?_
 refine Ah Ag hO (k := fun r4 hr4 => ?_)
 refine Ah Ag (Dn (l := [_]) zeroValue101) (k := fun r5 hr5 => ?_)
 refine Gw (Bt (l' := [_]) sizeOf101) (k := ?_)
 refine Me ?_
 refine xW ?_
 refine Z2 ?_
 refine Ah Ag Vf (k := fun r6 hr6 => ?_)
 refine fW ?_
 refine yE ?_
 refine Ij Ag rfl call85 func85 ntmps85 (fun l7 rD7 rr7 hl7 => ?_)
 refine oW ?_
 refine cO ?_
 refine Lq ?_
 refine bT (σ1 := Nat) (σ2 := Nat) (σ3 := List Ap) (σ4 := Array MapEntry) (σ5 := Nat) (fun n_3 x_1 x_2 x_2e x_2k => ((l7, Df rr7 .ready none) :: ((rD7, Obj.deferred (some [])) :: ((r6, oc [(vs r_Sg_a r.slots.gens.length r_Sg_c), (vs r_Su_a r.slots.used.length r_Su_c), (vs r_Sf_a r.slots.free.length r_Sf_c), (vs r_l_a r.l.length r_l_c), (vi r.seq)] 28) :: ((r5, oc [(Value.map (some r4))] 101) :: ((r4, Obj.map x_2e x_2k) :: ((r3, oc [(vs a1_1 ((Dx r.slots).length) c1_1)] 90) :: (B_1 ++ ((r2, oc [(Value.bool false)] 4) :: ((r1, oc [(vs r_Sg_a r.slots.gens.length r_Sg_c), (vs r_Su_a r.slots.used.length r_Su_c), (vs r_Sf_a r.slots.free.length r_Sf_c), (vs r_l_a r.l.length r_l_c), (vi r.seq)] 28) :: [])))))))))) (fun n_3 x_1 x_2 x_2e x_2k => [(0, (Value.func (.yield l7) [].toArray [].toArray)), (1, (Value.pointer (some ⟨r6, 0, none⟩))), (6, (vs r_l_a r.l.length r_l_c)), (7, (vi ((r.l.length : Nat) : Int))), (8, (vi ((x_1 : Nat) : Int)))]) (fun n_3 x_1 x_2 x_2e x_2k => r.l.length - x_1 < n_3 ∧ Is (Mh r (r.l.length + 1) 0 ([] : List Ap)) (Mh r n_3 x_1 x_2) ∧ Na (fun s : Ap => Value.string (bs s)) x_2e x_2 ∧ x_1 ≤ r.l.length) (fun n_3 x_1 x_2 x_2e x_2k => n_3) (r.l.length + 1) 0 ([] : List Ap) (#[]) 0 ?_ se (List.Perm.refl _) ?_
 ·exact ⟨Nat.lt_succ_self _, Is.refl _, Na.nil, Kh⟩
 ·rintro (_ | n_3) x_1 x_2 x_2e x_2k ⟨hm5, hF4, hx_2, hi6⟩
  ·omega
  refine Zd ?_
  refine Au rfl (fun hq5 => ?_) (fun hq5 => ?_)
  rotate_left
  ·refine Ca ?_
   refine Pl ?_
   refine Kb (.inr rfl) results85 q0 ?_
   refine fY ?_
   refine L3 ?_
   refine Du [rD7] (qa q0) results23 wX (fun w1 hw1 => ?_)
   exact ⟨(rq (((((hF.f hq1).neg hq2).neg hq3).neg hq4).ok2 (hF4.neg hq5))), hw1.ext_out⟩
  refine fJ ?_
  refine L7 ?_
  have hcp6 := (h_r_l.2.2 x_1 z3).2.2.1
  have hcp7 := (h_r_l.2.2 x_1 z3).2.2.2
  refine Q3 ?_
  refine Ah Ag Ur (k := fun r8 hr8 => ?_)
  refine tU ?_
  refine Pk ?_
  refine yB ?_
  refine dO (vs := [(vi ((x_1 : Nat) : Int)), (Value.agg [(vi ((r.l.getD x_1 default).handle.slot)), (vi ((r.l.getD x_1 default).handle.gen)), (vt ((r.l.getD x_1 default).name)), (vi ((r.l.getD x_1 default).state)), (vi ((r.l.getD x_1 default).version)), (vs ((r_l_t.getD x_1 default).ra) ((r.l.getD x_1 default).rules.length) ((r_l_t.getD x_1 default).rc)), (vs ((r_l_t.getD x_1 default).ca) ((r.l.getD x_1 default).creds.length) ((r_l_t.getD x_1 default).cc)), (vi ((r.l.getD x_1 default).deadline)), (vi r.seq)].toArray)]) hl7 (qa q0) Eo ?_
  refine Ut ?_
  refine Cs ?_
  refine Ah Ag z56 (k := fun r9 hr9 => ?_)
  refine xU ?_
  refine Z95 ?_
  refine Bg ?_
  refine Bg ?_
  refine Fi Da 21 [(true, 0), (true, 1), (true, 2), (true, 3), (true, 4), (true, 5), (true, 6), (true, 7), (true, 8), (true, 9), (true, 10), (true, 11), (true, 12), (true, 13), (true, 14), (true, 15), (true, 16), (false, 17), (false, 18), (true, 19), (true, 20)] z4 ?_
  refine Aw (Ai Kx) (k := ?_)
  refine Aw (Ai Kg) (k := ?_)
  refine Aw (Dq isAgg42 sizeOf42) (k := ?_)
  refine Aw (Bv isAgg90) (k := ?_)
  refine Gu ?_
  refine Aw (Cb (n := (Dx r.slots).length) runUnderlying90 sizeOf42 x_1 (Dw.slj hs1_1) (gD z3) Jv) (k := ?_)
  refine Aw (Cn isAgg42 sizeOf42 x_1 (Dw.slj hs1_1) (gD z3)) (k := ?_)
  refine Aw (Rl (AA3 _ _ _ _ _ _)) (k := ?_)
  refine Gu ?_
  refine Fm 45 rfl (fun hq8 => ?_) (fun hq8 => ?_)
  ·refine Bm 5 rfl ?_
   refine fH ?_
   refine Bm 4 rfl ?_
   refine bB ?_
   refine Zc ?_
   refine jI ?_
   refine Cy ?_
   refine Hc q0 ?_
   refine Rj ?_
   refine tZ ?_
   refine Pl ?_
   refine tR ?_
   refine Z7 ?_
   refine Du [rD7] (qa (qa (qa q0))) results23 wX (fun w1 hw1 => ?_)
   exact ⟨(rq (((((hF.f hq1).neg hq2).neg hq3).neg hq4).er2 ((hF4.pos hq5).pos hq8))), hw1.ext_out⟩
  refine Bl (Bv isAgg101) (k := ?_)
  refine Bl (Ai Kx) (k := ?_)
  refine Bl (Ai Om) (k := ?_)
  refine Bl (Bv isAgg9) (k := ?_)
  refine Bl (A6 (xs := x_2) ((r.l.getD x_1 default).name) zY runUnderlying101 runUnderlying9 zeroValue4 hx_2) (k := ?_)
  refine oL ?_
  refine Fm 52 rfl (fun hq9 => ?_) (fun hq9 => ?_)
  ·refine Bm 4 rfl ?_
   refine bB ?_
   refine Zc ?_
   refine jI ?_
   refine Cy ?_
   refine Hc q0 ?_
   refine Rj ?_
   refine tZ ?_
   refine Pl ?_
   refine tR ?_
   refine Z7 ?_
   refine Du [rD7] (qa (qa (qa q0))) results23 wX (fun w1 hw1 => ?_)
   exact ⟨(rq (((((hF.f hq1).neg hq2).neg hq3).neg hq4).er2 (((hF4.pos hq5).neg hq8).pos hq9))), hw1.ext_out⟩
  refine Bl z72 (k := ?_)
  refine AQ8 Ag (Eb (l := [_, _, _]) runUnderlying139 sizeOf103 zeroValue103) (k := fun r10 hr10 => ?_)
  refine rT (args := [_, _]) (Ad call53) func53 ntmps53 ?_
  refine Z2 ?_
  refine Ah Ag z75 (k := fun r11 hr11 => ?_)
  refine Xc ?_
  refine Af (Ei runUnderlying139) (k := ?_)
  refine Lq ?_
  refine Lj ?_
  refine K8 ?_
  refine Af (Hg runUnderlying139 sizeOf103 0) (k := ?_)
  refine Af (Bv isAgg103) (k := ?_)
  refine Jq ?_
  refine Af z72 (k := ?_)
  refine Fu (Ad call54) (fun w1 hw1 => gM w1 (t := ((r.l.getD x_1 default), r.seq)) (h_t_1_rules := (fun w hw => ((Ds.of_base Dc h_r_l).at (m := x_1) z3 w hw).1) w1 hw1) (h_t_1_creds := (fun w hw => ((Ds.of_base Dc h_r_l).at (m := x_1) z3 w hw).2.1) w1 hw1)) (k := ?_)
  refine Rj ?_
  refine Ct rfl (fun hq10 => ?_) (fun hq10 => ?_)
  ·refine Bg ?_
   refine Xj ?_
   refine M0 ?_
   refine Xf ?_
   refine Zc ?_
   refine jI ?_
   refine Cy ?_
   refine Hc (qa (qa q0)) ?_
   refine Rj ?_
   refine tZ ?_
   refine Pl ?_
   refine tR ?_
   refine Z7 ?_
   refine Du [rD7] (qa (qa (qa (qa (qa q0))))) results23 wX (fun w1 hw1 => ?_)
   exact ⟨(rq (((((hF.f hq1).neg hq2).neg hq3).neg hq4).er2 ((((hF4.pos hq5).neg hq8).neg hq9).t hq10))), hw1.ext_out⟩
  refine fS ?_
  refine Af (Hg runUnderlying139 sizeOf103 1) (k := ?_)
  refine Af (Bv isAgg103) (k := ?_)
  refine Jq ?_
  refine Af z72 (k := ?_)
  refine Fu (Ad call55) (fun w1 hw1 => gN w1 (t := ((r.l.getD x_1 default), r.seq)) (h_t_1_rules := (fun w hw => ((Ds.of_base Dc h_r_l).at (m := x_1) z3 w hw).1) w1 hw1) (h_t_1_creds := (fun w hw => ((Ds.of_base Dc h_r_l).at (m := x_1) z3 w hw).2.1) w1 hw1)) (k := ?_)
  refine Rj ?_
  refine Ct rfl (fun hq11 => ?_) (fun hq11 => ?_)
  ·refine Bg ?_
   refine Xj ?_
   refine M0 ?_
   refine Xf ?_
   refine Zc ?_
   refine jI ?_
   refine Cy ?_
   refine Hc (qa (qa q0)) ?_
   refine Rj ?_
   refine tZ ?_
   refine Pl ?_
   refine tR ?_
   refine Z7 ?_
   refine Du [rD7] (qa (qa (qa (qa (qa q0))))) results23 wX (fun w1 hw1 => ?_)
   exact ⟨(rq (((((hF.f hq1).neg hq2).neg hq3).neg hq4).er2 (((((hF4.pos hq5).neg hq8).neg hq9).f hq10).t hq11))), hw1.ext_out⟩
  refine fS ?_
  refine Af (Hg runUnderlying139 sizeOf103 2) (k := ?_)
  refine Af (Bv isAgg103) (k := ?_)
  refine Jq ?_
  refine Af z72 (k := ?_)
  refine Fu (Ad call56) (fun w1 hw1 => nH w1 (t := ((r.l.getD x_1 default), r.seq)) (h_t_1_rules := (fun w hw => ((Ds.of_base Dc h_r_l).at (m := x_1) z3 w hw).1) w1 hw1) (n_t_1_rules := by first | omega | (simp; done) | exact (hsm _ z2).1 | exact (hsm _ z2).2) (h_t_1_creds := (fun w hw => ((Ds.of_base Dc h_r_l).at (m := x_1) z3 w hw).2.1) w1 hw1) (n_t_1_creds := by first | omega | (simp; done) | exact (hsm _ z2).1 | exact (hsm _ z2).2)) (k := ?_)
  refine Rj ?_
  refine Ct rfl (fun hq12 => ?_) (fun hq12 => ?_)
  ·refine Bg ?_
   refine Xj ?_
   refine M0 ?_
   refine Xf ?_
   refine Zc ?_
   refine jI ?_
   refine Cy ?_
   refine Hc (qa (qa q0)) ?_
   refine Rj ?_
   refine tZ ?_
   refine Pl ?_
   refine tR ?_
   refine Z7 ?_
   refine Du [rD7] (qa (qa (qa (qa (qa q0))))) results23 wX (fun w1 hw1 => ?_)
   exact ⟨(rq (((((hF.f hq1).neg hq2).neg hq3).neg hq4).er2 ((((((hF4.pos hq5).neg hq8).neg hq9).f hq10).f hq11).t hq12))), hw1.ext_out⟩
  refine Xi ?_
  refine La ?_
  refine M0 ?_
  refine Xf ?_
  refine Gj rfl ?_
  refine aY ?_
  refine Cs ?_
  refine Af (Bv isAgg101) (k := ?_)
  refine gB ?_
  refine oS ?_
  refine bZ (xs := x_2) ((r.l.getD x_1 default).name) zY runUnderlying101 runUnderlying9 hx_2 Ey (qa (qa (qa (qa (qa (qa (qa (qa q0)))))))) (k := fun em3 km3 hms3 => ?_)
  refine oX ?_
  refine Fv (qa (qa (qa q0))) ?_
  refine Rj ?_
  refine Xk ?_
  refine Ci _ (((((((((qa (qa (qa (qa (qa (qa (qa (qa (qa (qa (qc (qa q0)))))))))))).trans (qa (qa (qa (qa (qa (qa (qa (qa (qa (qa (qa (qc q0))))))))))))).trans (qb (qb (qb (qb (qb (qb (qb (qb (qb (qb (qb (qb q0))))))))))))).trans (qc (qa (qa (qa (qa (qa (qa (qa (qa (qa (qa (qa q0))))))))))))).trans (qa (qc (qa (qa (qa q0)))))).trans (qa (qa (qc (qa (qa (qa (qa (qa (qa (qa (qa (qa q0))))))))))))).trans (qa (qa (qa (qc (qa (qa (qa (qa (qa (qa (qa (qa q0))))))))))))).trans (qa (qa (qa (qa (qc (qa (qa (qa (qa (qa (qa (qa q0))))))))))))).trans (qa (qa (qa (qa (qa (qc (qa (qa q0))))))))) ?_
  refine Cj _ (List.Sublist.cons_cons _ (List.Sublist.cons_cons _ (List.Sublist.cons_cons _ (List.Sublist.cons_cons _ (List.Sublist.cons_cons _ (List.Sublist.cons_cons _ (List.Sublist.append Ou oJ))))))) ?_
  exact bU n_3 (x_1 + 1) (x_2 ++ [((r.l.getD x_1 default).name)]) em3 km3 ⟨by omega, ((((((hF4.pos hq5).neg hq8).neg hq9).f hq10).f hq11).f hq12), hms3, z2⟩ (Nat.lt_succ_self _) se (List.Perm.refl _)

end Go.Proofs.YtopjaeoklkpcpaaGreatDoor.Jd

namespace Go.Proofs.YtopjaeoklkpcpaaGreatDoor
open Go.Proofs.Tryz
open Go.Proofs Go.Proofs.YtopjaeoklkpcpaaGreatDoor.Jd
open Go.ChangeShapes Go.WideShapes Go.ChangeAt Go.RowKit Go.ChangeMaps
set_option maxRecDepth 100000
set_option linter.unusedVariables false
set_option linter.unusedSimpArgs false
theorem U1 : laidOutB Tryz.prog = true := by kernel_rfl
theorem AU9 : ownKnob Tryz.prog.godebug = none := by kernel_rfl
section
variable {H : Type} {enc : TypeId × Value → H} {W : World}
theorem sE {n : Nat} {cs : List Value} {y : DataW H × List MemPlace} (h : DataW.trod enc Tryz.prog W 0 (fun _ => true) true n 22 cs = some y) : ∃ v0 : Option Addr, ∃ v1 : Nat, ∃ v2 : List Int, cs = [Value.slice v0 v2.length v1] ∧ v2.length ≤ v1 ∧ Sl W eI 1 v0 v2 := by
  obtain ⟨a, c, xs, h1, h2, h3⟩ := Xt (enc := eI) (k := 1) underlying22 z4 Bh (uH underlying3) h
  exact ⟨a, c, xs, h1, h2, h3⟩
theorem U2 {n : Nat} {cs : List Value} {y : DataW H × List MemPlace} (h : DataW.trod enc Tryz.prog W 0 (fun _ => true) true n 23 cs = some y) : ∃ v0 : Option Addr, ∃ v1 : Nat, ∃ v2 : List Bool, cs = [Value.slice v0 v2.length v1] ∧ v2.length ≤ v1 ∧ Sl W eB 1 v0 v2 := by
  obtain ⟨a, c, xs, h1, h2, h3⟩ := Xt (enc := eB) (k := 1) underlying23 z4 Gh (pH underlying4) h
  exact ⟨a, c, xs, h1, h2, h3⟩
theorem U3 {n : Nat} {cs : List Value} {y : DataW H × List MemPlace} (h : DataW.trod enc Tryz.prog W 0 (fun _ => true) true n 25 cs = some y) : ∃ v0 : Option Addr, ∃ v1 : Nat, ∃ v2 : List Int, ∃ v3 : Option Addr, ∃ v4 : Nat, ∃ v5 : List Bool, ∃ v6 : Option Addr, ∃ v7 : Nat, ∃ v8 : List Int, cs = [Value.slice v0 v2.length v1, Value.slice v3 v5.length v4, Value.slice v6 v8.length v7] ∧ v2.length ≤ v1 ∧ Sl W eI 1 v0 v2 ∧ v5.length ≤ v4 ∧ Sl W eB 1 v3 v5 ∧ v8.length ≤ v7 ∧ Sl W eI 1 v6 v8 := by
  obtain ⟨xs, m, _, _, hlen, hxl, hf⟩ := DataW.trod_struct underlying25 h
  have hc : cs.length = 3 := Eq.trans hlen z4
  have hxl2 : xs.length = 3 := by simpa using hxl
  have e0 := hf 0 _ rfl
  rw [List.getElem?_eq_getElem z2] at e0
  obtain ⟨v0_0, v0_1, v0_2, q0, f0_0, f0_1⟩ := sE e0
  have q02 : (cs.drop 0).take 1 = [.slice v0_0 v0_2.length v0_1] := Eq.trans (congrArg (fun k => (cs.drop 0).take k) (show 1 = Tryz.prog.cellsOf 22 by kernel_rfl)) q0
  have e1 := hf 1 _ rfl
  rw [List.getElem?_eq_getElem z2] at e1
  obtain ⟨v1_0, v1_1, v1_2, q1, f1_0, f1_1⟩ := U2 e1
  have q12 : (cs.drop 1).take 1 = [.slice v1_0 v1_2.length v1_1] := Eq.trans (congrArg (fun k => (cs.drop 1).take k) (show 1 = Tryz.prog.cellsOf 23 by kernel_rfl)) q1
  have e2 := hf 2 _ rfl
  rw [List.getElem?_eq_getElem z2] at e2
  obtain ⟨v2_0, v2_1, v2_2, q2, f2_0, f2_1⟩ := sE e2
  have q22 : (cs.drop 2).take 1 = [.slice v2_0 v2_2.length v2_1] := Eq.trans (congrArg (fun k => (cs.drop 2).take k) (show 1 = Tryz.prog.cellsOf 22 by kernel_rfl)) q2
  refine ⟨v0_0, v0_1, v0_2, v1_0, v1_1, v1_2, v2_0, v2_1, v2_2, ?_, f0_0, f0_1, f1_0, f1_1, f2_0, f2_1⟩
  have h0 : cs = cs.drop 0 := rfl
  rw [h0, Cl cs 0 1 1 rfl, q02, Cl cs 1 1 2 rfl, q12, Cl cs 2 1 3 rfl, q22, List.drop_of_length_le z2]
  rfl
theorem Ko {n : Nat} {cs : List Value} {y : DataW H × List MemPlace} (h : DataW.trod enc Tryz.prog W 0 (fun _ => true) true n 3 cs = some y) : ∃ v0 : Int, cs = [Value.int .i64 v0] ∧ (-9223372036854775808 ≤ v0 ∧ v0 ≤ 9223372036854775807) := by
  obtain ⟨m, h1, _, h3⟩ := DataW.trod_int underlying3 h
  exact ⟨m, h1, S4 h3⟩
theorem U4 {n : Nat} {cs : List Value} {y : DataW H × List MemPlace} (h : DataW.trod enc Tryz.prog W 0 (fun _ => true) true n 42 cs = some y) : ∃ v0 : Int, ∃ v1 : Int, cs = [Value.int .i64 v0, Value.int .i64 v1] ∧ (-9223372036854775808 ≤ v0 ∧ v0 ≤ 9223372036854775807) ∧ (-9223372036854775808 ≤ v1 ∧ v1 ≤ 9223372036854775807) := by
  obtain ⟨xs, m, _, _, hlen, hxl, hf⟩ := DataW.trod_struct underlying42 h
  have hc : cs.length = 2 := Eq.trans hlen z4
  have hxl2 : xs.length = 2 := by simpa using hxl
  have e0 := hf 0 _ rfl
  rw [List.getElem?_eq_getElem z2] at e0
  obtain ⟨v0_0, q0, f0_0⟩ := Ko e0
  have q02 : (cs.drop 0).take 1 = [.int .i64 v0_0] := Eq.trans (congrArg (fun k => (cs.drop 0).take k) (show 1 = Tryz.prog.cellsOf 3 by kernel_rfl)) q0
  have e1 := hf 1 _ rfl
  rw [List.getElem?_eq_getElem z2] at e1
  obtain ⟨v1_0, q1, f1_0⟩ := Ko e1
  have q12 : (cs.drop 1).take 1 = [.int .i64 v1_0] := Eq.trans (congrArg (fun k => (cs.drop 1).take k) (show 1 = Tryz.prog.cellsOf 3 by kernel_rfl)) q1
  refine ⟨v0_0, v1_0, ?_, f0_0, f1_0⟩
  have h0 : cs = cs.drop 0 := rfl
  rw [h0, Cl cs 0 1 1 rfl, q02, Cl cs 1 1 2 rfl, q12, List.drop_of_length_le z2]
  rfl
theorem F4 {n : Nat} {cs : List Value} {y : DataW H × List MemPlace} (h : DataW.trod enc Tryz.prog W 0 (fun _ => true) true n 9 cs = some y) : ∃ v0 : Ap, cs = [Value.string (bs v0)] := by
  obtain ⟨s, h1, _⟩ := DataW.trod_string underlying9 h
  exact ⟨s.data.toList, by rw [← zX s]; exact h1⟩
theorem AI9 {n : Nat} {cs : List Value} {y : DataW H × List MemPlace} (h : DataW.trod enc Tryz.prog W 0 (fun _ => true) true n 4 cs = some y) : ∃ v0 : Bool, cs = [Value.bool v0] := by
  obtain ⟨b, h1, _⟩ := DataW.trod_bool underlying4 h
  exact ⟨b, h1⟩
theorem U5 {n : Nat} {cs : List Value} {y : DataW H × List MemPlace} (h : DataW.trod enc Tryz.prog W 0 (fun _ => true) true n 30 cs = some y) : ∃ v0 : Int, ∃ v1 : Int, cs = [Value.int .i64 v0, Value.int .i64 v1] ∧ (-9223372036854775808 ≤ v0 ∧ v0 ≤ 9223372036854775807) ∧ (-9223372036854775808 ≤ v1 ∧ v1 ≤ 9223372036854775807) := by
  obtain ⟨xs, m, _, _, hlen, hxl, hf⟩ := DataW.trod_struct underlying30 h
  have hc : cs.length = 2 := Eq.trans hlen z4
  have hxl2 : xs.length = 2 := by simpa using hxl
  have e0 := hf 0 _ rfl
  rw [List.getElem?_eq_getElem z2] at e0
  obtain ⟨v0_0, q0, f0_0⟩ := Ko e0
  have q02 : (cs.drop 0).take 1 = [.int .i64 v0_0] := Eq.trans (congrArg (fun k => (cs.drop 0).take k) (show 1 = Tryz.prog.cellsOf 3 by kernel_rfl)) q0
  have e1 := hf 1 _ rfl
  rw [List.getElem?_eq_getElem z2] at e1
  obtain ⟨v1_0, q1, f1_0⟩ := Ko e1
  have q12 : (cs.drop 1).take 1 = [.int .i64 v1_0] := Eq.trans (congrArg (fun k => (cs.drop 1).take k) (show 1 = Tryz.prog.cellsOf 3 by kernel_rfl)) q1
  refine ⟨v0_0, v1_0, ?_, f0_0, f1_0⟩
  have h0 : cs = cs.drop 0 := rfl
  rw [h0, Cl cs 0 1 1 rfl, q02, Cl cs 1 1 2 rfl, q12, List.drop_of_length_le z2]
  rfl
theorem U6 {n : Nat} {cs : List Value} {y : DataW H × List MemPlace} (h : DataW.trod enc Tryz.prog W 0 (fun _ => true) true n 32 cs = some y) : ∃ v0 : Int, ∃ v1 : Int, cs = [Value.int .i64 v0, Value.int .i64 v1] ∧ (-9223372036854775808 ≤ v0 ∧ v0 ≤ 9223372036854775807) ∧ (-9223372036854775808 ≤ v1 ∧ v1 ≤ 9223372036854775807) := by
  obtain ⟨xs, m, _, _, hlen, hxl, hf⟩ := DataW.trod_struct underlying32 h
  have hc : cs.length = 2 := Eq.trans hlen z4
  have hxl2 : xs.length = 2 := by simpa using hxl
  have e0 := hf 0 _ rfl
  rw [List.getElem?_eq_getElem z2] at e0
  obtain ⟨v0_0, q0, f0_0⟩ := Ko e0
  have q02 : (cs.drop 0).take 1 = [.int .i64 v0_0] := Eq.trans (congrArg (fun k => (cs.drop 0).take k) (show 1 = Tryz.prog.cellsOf 3 by kernel_rfl)) q0
  have e1 := hf 1 _ rfl
  rw [List.getElem?_eq_getElem z2] at e1
  obtain ⟨v1_0, q1, f1_0⟩ := Ko e1
  have q12 : (cs.drop 1).take 1 = [.int .i64 v1_0] := Eq.trans (congrArg (fun k => (cs.drop 1).take k) (show 1 = Tryz.prog.cellsOf 3 by kernel_rfl)) q1
  refine ⟨v0_0, v1_0, ?_, f0_0, f1_0⟩
  have h0 : cs = cs.drop 0 := rfl
  rw [h0, Cl cs 0 1 1 rfl, q02, Cl cs 1 1 2 rfl, q12, List.drop_of_length_le z2]
  rfl
theorem U7 {n : Nat} {cs : List Value} {y : DataW H × List MemPlace} (h : DataW.trod enc Tryz.prog W 0 (fun _ => true) true n 34 cs = some y) : ∃ v0 : Bool, ∃ v1 : Int, ∃ v2 : Int, ∃ v3 : Int, ∃ v4 : Int, cs = [Value.bool v0, Value.int .i64 v1, Value.int .i64 v2, Value.int .i64 v3, Value.int .i64 v4] ∧ (-9223372036854775808 ≤ v1 ∧ v1 ≤ 9223372036854775807) ∧ (-9223372036854775808 ≤ v2 ∧ v2 ≤ 9223372036854775807) ∧ (-9223372036854775808 ≤ v3 ∧ v3 ≤ 9223372036854775807) ∧ (-9223372036854775808 ≤ v4 ∧ v4 ≤ 9223372036854775807) := by
  obtain ⟨xs, m, _, _, hlen, hxl, hf⟩ := DataW.trod_struct underlying34 h
  have hc : cs.length = 5 := Eq.trans hlen z4
  have hxl2 : xs.length = 3 := by simpa using hxl
  have e0 := hf 0 _ rfl
  rw [List.getElem?_eq_getElem z2] at e0
  obtain ⟨v0_0, q0⟩ := AI9 e0
  have q02 : (cs.drop 0).take 1 = [.bool v0_0] := Eq.trans (congrArg (fun k => (cs.drop 0).take k) (show 1 = Tryz.prog.cellsOf 4 by kernel_rfl)) q0
  have e1 := hf 1 _ rfl
  rw [List.getElem?_eq_getElem z2] at e1
  obtain ⟨v1_0, v1_1, q1, f1_0, f1_1⟩ := U5 e1
  have q12 : (cs.drop 1).take 2 = [.int .i64 v1_0, .int .i64 v1_1] := Eq.trans (congrArg (fun k => (cs.drop 1).take k) (show 2 = Tryz.prog.cellsOf 30 by kernel_rfl)) q1
  have e2 := hf 2 _ rfl
  rw [List.getElem?_eq_getElem z2] at e2
  obtain ⟨v2_0, v2_1, q2, f2_0, f2_1⟩ := U6 e2
  have q22 : (cs.drop 3).take 2 = [.int .i64 v2_0, .int .i64 v2_1] := Eq.trans (congrArg (fun k => (cs.drop 3).take k) (show 2 = Tryz.prog.cellsOf 32 by kernel_rfl)) q2
  refine ⟨v0_0, v1_0, v1_1, v2_0, v2_1, ?_, f1_0, f1_1, f2_0, f2_1⟩
  have h0 : cs = cs.drop 0 := rfl
  rw [h0, Cl cs 0 1 1 rfl, q02, Cl cs 1 2 3 rfl, q12, Cl cs 3 2 5 rfl, q22, List.drop_of_length_le z2]
  rfl
theorem U8 {n : Nat} {cs : List Value} {y : DataW H × List MemPlace} (h : DataW.trod enc Tryz.prog W 0 (fun _ => true) true n 49 cs = some y) : ∃ v0 : Option Addr, ∃ v1 : Nat, ∃ v2 : List Bf, cs = [Value.slice v0 v2.length v1] ∧ v2.length ≤ v1 ∧ Sl W Et 5 v0 v2 := by
  obtain ⟨a, c, xs, h1, h2, h3⟩ := Xt (enc := Et) (k := 5) underlying49 z4 Ck (fun n cs y h => by obtain ⟨v0, v1, v2, v3, v4, rfl, _, _, _, _⟩ := U7 h; exact ⟨(Bf.mk v0 (An.mk v1 v2) (Al.mk v3 v4)), rfl⟩) h
  exact ⟨a, c, xs, h1, h2, h3⟩
theorem U9 {n : Nat} {cs : List Value} {y : DataW H × List MemPlace} (h : DataW.trod enc Tryz.prog W 0 (fun _ => true) true n 62 cs = some y) : ∃ v0 : Int, ∃ v1 : Ap, ∃ v2 : Int, ∃ v3 : Int, cs = [Value.int .i64 v0, Value.string (bs v1), Value.int .i64 v2, Value.int .i64 v3] ∧ (-9223372036854775808 ≤ v0 ∧ v0 ≤ 9223372036854775807) ∧ (-9223372036854775808 ≤ v2 ∧ v2 ≤ 9223372036854775807) ∧ (-9223372036854775808 ≤ v3 ∧ v3 ≤ 9223372036854775807) := by
  obtain ⟨xs, m, _, _, hlen, hxl, hf⟩ := DataW.trod_struct underlying62 h
  have hc : cs.length = 4 := Eq.trans hlen z4
  have hxl2 : xs.length = 4 := by simpa using hxl
  have e0 := hf 0 _ rfl
  rw [List.getElem?_eq_getElem z2] at e0
  obtain ⟨v0_0, q0, f0_0⟩ := Ko e0
  have q02 : (cs.drop 0).take 1 = [.int .i64 v0_0] := Eq.trans (congrArg (fun k => (cs.drop 0).take k) (show 1 = Tryz.prog.cellsOf 3 by kernel_rfl)) q0
  have e1 := hf 1 _ rfl
  rw [List.getElem?_eq_getElem z2] at e1
  obtain ⟨v1_0, q1⟩ := F4 e1
  have q12 : (cs.drop 1).take 1 = [.string (bs v1_0)] := Eq.trans (congrArg (fun k => (cs.drop 1).take k) (show 1 = Tryz.prog.cellsOf 9 by kernel_rfl)) q1
  have e2 := hf 2 _ rfl
  rw [List.getElem?_eq_getElem z2] at e2
  obtain ⟨v2_0, q2, f2_0⟩ := Ko e2
  have q22 : (cs.drop 2).take 1 = [.int .i64 v2_0] := Eq.trans (congrArg (fun k => (cs.drop 2).take k) (show 1 = Tryz.prog.cellsOf 3 by kernel_rfl)) q2
  have e3 := hf 3 _ rfl
  rw [List.getElem?_eq_getElem z2] at e3
  obtain ⟨v3_0, q3, f3_0⟩ := Ko e3
  have q32 : (cs.drop 3).take 1 = [.int .i64 v3_0] := Eq.trans (congrArg (fun k => (cs.drop 3).take k) (show 1 = Tryz.prog.cellsOf 3 by kernel_rfl)) q3
  refine ⟨v0_0, v1_0, v2_0, v3_0, ?_, f0_0, f2_0, f3_0⟩
  have h0 : cs = cs.drop 0 := rfl
  rw [h0, Cl cs 0 1 1 rfl, q02, Cl cs 1 1 2 rfl, q12, Cl cs 2 1 3 rfl, q22, Cl cs 3 1 4 rfl, q32, List.drop_of_length_le z2]
  rfl
theorem V0 {n : Nat} {cs : List Value} {y : DataW H × List MemPlace} (h : DataW.trod enc Tryz.prog W 0 (fun _ => true) true n 50 cs = some y) : ∃ v0 : Option Addr, ∃ v1 : Nat, ∃ v2 : List Bw, cs = [Value.slice v0 v2.length v1] ∧ v2.length ≤ v1 ∧ Sl W Fq 4 v0 v2 := by
  obtain ⟨a, c, xs, h1, h2, h3⟩ := Xt (enc := Fq) (k := 4) underlying50 z4 Ed (fun n cs y h => by obtain ⟨v0, v1, v2, v3, rfl, _, _, _⟩ := U9 h; exact ⟨(Bw.mk v0 v1 v2 v3), rfl⟩) h
  exact ⟨a, c, xs, h1, h2, h3⟩
theorem V1 {n : Nat} {cs : List Value} {y : DataW H × List MemPlace} (h : DataW.trod enc Tryz.prog W 0 (fun _ => true) true n 52 cs = some y) : ∃ v0 : Int, ∃ v1 : Int, ∃ v2 : Ap, ∃ v3 : Int, ∃ v4 : Int, ∃ v5 : Option Addr, ∃ v6 : Nat, ∃ v7 : List Bf, ∃ v8 : Option Addr, ∃ v9 : Nat, ∃ v10 : List Bw, ∃ v11 : Int, cs = [Value.int .i64 v0, Value.int .i64 v1, Value.string (bs v2), Value.int .i64 v3, Value.int .i64 v4, Value.slice v5 v7.length v6, Value.slice v8 v10.length v9, Value.int .i64 v11] ∧ (-9223372036854775808 ≤ v0 ∧ v0 ≤ 9223372036854775807) ∧ (-9223372036854775808 ≤ v1 ∧ v1 ≤ 9223372036854775807) ∧ (-9223372036854775808 ≤ v3 ∧ v3 ≤ 9223372036854775807) ∧ (-9223372036854775808 ≤ v4 ∧ v4 ≤ 9223372036854775807) ∧ v7.length ≤ v6 ∧ Sl W Et 5 v5 v7 ∧ v10.length ≤ v9 ∧ Sl W Fq 4 v8 v10 ∧ (-9223372036854775808 ≤ v11 ∧ v11 ≤ 9223372036854775807) := by
  obtain ⟨xs, m, _, _, hlen, hxl, hf⟩ := DataW.trod_struct underlying52 h
  have hc : cs.length = 8 := Eq.trans hlen z4
  have hxl2 : xs.length = 7 := by simpa using hxl
  have e0 := hf 0 _ rfl
  rw [List.getElem?_eq_getElem z2] at e0
  obtain ⟨v0_0, v0_1, q0, f0_0, f0_1⟩ := U4 e0
  have q02 : (cs.drop 0).take 2 = [.int .i64 v0_0, .int .i64 v0_1] := Eq.trans (congrArg (fun k => (cs.drop 0).take k) (show 2 = Tryz.prog.cellsOf 42 by kernel_rfl)) q0
  have e1 := hf 1 _ rfl
  rw [List.getElem?_eq_getElem z2] at e1
  obtain ⟨v1_0, q1⟩ := F4 e1
  have q12 : (cs.drop 2).take 1 = [.string (bs v1_0)] := Eq.trans (congrArg (fun k => (cs.drop 2).take k) (show 1 = Tryz.prog.cellsOf 9 by kernel_rfl)) q1
  have e2 := hf 2 _ rfl
  rw [List.getElem?_eq_getElem z2] at e2
  obtain ⟨v2_0, q2, f2_0⟩ := Ko e2
  have q22 : (cs.drop 3).take 1 = [.int .i64 v2_0] := Eq.trans (congrArg (fun k => (cs.drop 3).take k) (show 1 = Tryz.prog.cellsOf 3 by kernel_rfl)) q2
  have e3 := hf 3 _ rfl
  rw [List.getElem?_eq_getElem z2] at e3
  obtain ⟨v3_0, q3, f3_0⟩ := Ko e3
  have q32 : (cs.drop 4).take 1 = [.int .i64 v3_0] := Eq.trans (congrArg (fun k => (cs.drop 4).take k) (show 1 = Tryz.prog.cellsOf 3 by kernel_rfl)) q3
  have e4 := hf 4 _ rfl
  rw [List.getElem?_eq_getElem z2] at e4
  obtain ⟨v4_0, v4_1, v4_2, q4, f4_0, f4_1⟩ := U8 e4
  have q42 : (cs.drop 5).take 1 = [.slice v4_0 v4_2.length v4_1] := Eq.trans (congrArg (fun k => (cs.drop 5).take k) (show 1 = Tryz.prog.cellsOf 49 by kernel_rfl)) q4
  have e5 := hf 5 _ rfl
  rw [List.getElem?_eq_getElem z2] at e5
  obtain ⟨v5_0, v5_1, v5_2, q5, f5_0, f5_1⟩ := V0 e5
  have q52 : (cs.drop 6).take 1 = [.slice v5_0 v5_2.length v5_1] := Eq.trans (congrArg (fun k => (cs.drop 6).take k) (show 1 = Tryz.prog.cellsOf 50 by kernel_rfl)) q5
  have e6 := hf 6 _ rfl
  rw [List.getElem?_eq_getElem z2] at e6
  obtain ⟨v6_0, q6, f6_0⟩ := Ko e6
  have q62 : (cs.drop 7).take 1 = [.int .i64 v6_0] := Eq.trans (congrArg (fun k => (cs.drop 7).take k) (show 1 = Tryz.prog.cellsOf 3 by kernel_rfl)) q6
  refine ⟨v0_0, v0_1, v1_0, v2_0, v3_0, v4_0, v4_1, v4_2, v5_0, v5_1, v5_2, v6_0, ?_, f0_0, f0_1, f2_0, f3_0, f4_0, f4_1, f5_0, f5_1, f6_0⟩
  have h0 : cs = cs.drop 0 := rfl
  rw [h0, Cl cs 0 2 2 rfl, q02, Cl cs 2 1 3 rfl, q12, Cl cs 3 1 4 rfl, q22, Cl cs 4 1 5 rfl, q32, Cl cs 5 1 6 rfl, q42, Cl cs 6 1 7 rfl, q52, Cl cs 7 1 8 rfl, q62, List.drop_of_length_le z2]
  rfl
theorem V2 {n : Nat} {cs : List Value} {y : DataW H × List MemPlace} (h : DataW.trod enc Tryz.prog W 0 (fun _ => true) true n 26 cs = some y) : ∃ v0 : Option Addr, ∃ v1 : Nat, ∃ v2 : List Aa, ∃ v3 : List TA, cs = [Value.slice v0 v2.length v1] ∧ v2.length ≤ v1 ∧ Rm W Bu 8 DT v0 v2 v3 := by
  obtain ⟨a, c, xs, ts, h1, h2, h3⟩ := A7 (enc := Bu) (D := DT) (k := 8) underlying26 z4 Av (fun n cs y h => by obtain ⟨v0, v1, v2, v3, v4, v5, v6, v7, v8, v9, v10, v11, rfl, f0, f1, f2, f3, f4, f5, f6, f7, f8⟩ := V1 h; exact ⟨(Aa.mk (Ar.mk v0 v1) v2 v3 v4 v7 v10 v11), ⟨v5, v6, v8, v9⟩, rfl, ⟨f5, f7, f4, f6⟩⟩) h
  exact ⟨a, c, xs, ts, h1, h2, h3⟩
theorem sF {n : Nat} {cs : List Value} {y : DataW H × List MemPlace} (h : DataW.trod enc Tryz.prog W 0 (fun _ => true) true n 28 cs = some y) : ∃ v0 : Option Addr, ∃ v1 : Nat, ∃ v2 : List Int, ∃ v3 : Option Addr, ∃ v4 : Nat, ∃ v5 : List Bool, ∃ v6 : Option Addr, ∃ v7 : Nat, ∃ v8 : List Int, ∃ v9 : Option Addr, ∃ v10 : Nat, ∃ v11 : List Aa, ∃ v12 : List TA, ∃ v13 : Int, cs = [Value.slice v0 v2.length v1, Value.slice v3 v5.length v4, Value.slice v6 v8.length v7, Value.slice v9 v11.length v10, Value.int .i64 v13] ∧ v2.length ≤ v1 ∧ Sl W eI 1 v0 v2 ∧ v5.length ≤ v4 ∧ Sl W eB 1 v3 v5 ∧ v8.length ≤ v7 ∧ Sl W eI 1 v6 v8 ∧ v11.length ≤ v10 ∧ Rm W Bu 8 DT v9 v11 v12 ∧ (-9223372036854775808 ≤ v13 ∧ v13 ≤ 9223372036854775807) := by
  obtain ⟨xs, m, _, _, hlen, hxl, hf⟩ := DataW.trod_struct underlying28 h
  have hc : cs.length = 5 := Eq.trans hlen z4
  have hxl2 : xs.length = 3 := by simpa using hxl
  have e0 := hf 0 _ rfl
  rw [List.getElem?_eq_getElem z2] at e0
  obtain ⟨v0_0, v0_1, v0_2, v0_3, v0_4, v0_5, v0_6, v0_7, v0_8, q0, f0_0, f0_1, f0_2, f0_3, f0_4, f0_5⟩ := U3 e0
  have q02 : (cs.drop 0).take 3 = [.slice v0_0 v0_2.length v0_1, .slice v0_3 v0_5.length v0_4, .slice v0_6 v0_8.length v0_7] := Eq.trans (congrArg (fun k => (cs.drop 0).take k) (show 3 = Tryz.prog.cellsOf 25 by kernel_rfl)) q0
  have e1 := hf 1 _ rfl
  rw [List.getElem?_eq_getElem z2] at e1
  obtain ⟨v1_0, v1_1, v1_2, v1_3, q1, f1_0, f1_1⟩ := V2 e1
  have q12 : (cs.drop 3).take 1 = [.slice v1_0 v1_2.length v1_1] := Eq.trans (congrArg (fun k => (cs.drop 3).take k) (show 1 = Tryz.prog.cellsOf 26 by kernel_rfl)) q1
  have e2 := hf 2 _ rfl
  rw [List.getElem?_eq_getElem z2] at e2
  obtain ⟨v2_0, q2, f2_0⟩ := Ko e2
  have q22 : (cs.drop 4).take 1 = [.int .i64 v2_0] := Eq.trans (congrArg (fun k => (cs.drop 4).take k) (show 1 = Tryz.prog.cellsOf 3 by kernel_rfl)) q2
  refine ⟨v0_0, v0_1, v0_2, v0_3, v0_4, v0_5, v0_6, v0_7, v0_8, v1_0, v1_1, v1_2, v1_3, v2_0, ?_, f0_0, f0_1, f0_2, f0_3, f0_4, f0_5, f1_0, f1_1, f2_0⟩
  have h0 : cs = cs.drop 0 := rfl
  rw [h0, Cl cs 0 3 3 rfl, q02, Cl cs 3 1 4 rfl, q12, Cl cs 4 1 5 rfl, q22, List.drop_of_length_le z2]
  rfl
end
def sG : List (String × DataW Unit) := [("wicketgate/acl.errRules", Rows.laid_wicketgate_acl_errRules), ("wicketgate/acl.errRule", Rows.laid_wicketgate_acl_errRule), ("wicketgate/acl.errPlace", Rows.laid_wicketgate_acl_errPlace), ("wicketgate/acl.errTarget", Rows.laid_wicketgate_acl_errTarget), ("wicketgate/roles.verbs", Rows.laid_wicketgate_roles_verbs)]
noncomputable def F5 (os : Os) : World := { World.holding Tryz.prog os ⟨#[], #[], []⟩ with heap := ((World.holding Tryz.prog os ⟨#[], #[], []⟩).heap.modify 0 fun
      | .cells _ t frozen => .cells #[.iface 199 (.agg #[.pointer (some ⟨6, 78, none⟩)])] t frozen
      | o => o) }
noncomputable def Zt (os : Os) : World := (F5 os).layVars Tryz.prog sG
theorem jf1 : laidOutB Tryz.pinned.checked.prog = true := by kernel_rfl
theorem jf2 : mapsRowed Tryz.pinned.checked.prog = true := by kernel_rfl
theorem jf3 : Tryz.pinned.checked.prog.stopsHeard = true := by kernel_rfl
theorem jf4 : Tryz.pinned.checked.prog.mayEnter = true := by kernel_rfl
theorem jf5 : Tryz.pinned.checked.prog.liftsFinal = Rows.registryTellsRow.lifted := by kernel_rfl
theorem V3 : Tryz.prog.globalNamed "wicketgate/acl.errRules" = some 2 := by kernel_rfl
theorem V4 : (Tryz.prog.globals[2]?).map (·.type) = some 78 := by kernel_rfl
theorem V5 : Tryz.prog.globalNamed "wicketgate/acl.errRule" = some 3 := by kernel_rfl
theorem V6 : (Tryz.prog.globals[3]?).map (·.type) = some 78 := by kernel_rfl
theorem V7 : Tryz.prog.globalNamed "wicketgate/acl.errPlace" = some 4 := by kernel_rfl
theorem V8 : (Tryz.prog.globals[4]?).map (·.type) = some 78 := by kernel_rfl
theorem V9 : Tryz.prog.globalNamed "wicketgate/acl.errTarget" = some 5 := by kernel_rfl
theorem W0 : (Tryz.prog.globals[5]?).map (·.type) = some 78 := by kernel_rfl
theorem sH : "*" ++ "errors.errorString" = "*errors.errorString" := by decide
theorem Pe (u : TypeId) (h : Tryz.prog.typeName? 3 u = some "*errors.errorString") : u = 240 :=
  typeName_ptr_named (nm := "errors.errorString") (by rw [sH]; kernel_rfl) z4 Gi u (by rw [sH]; exact h)

theorem Vl : Tryz.prog.cellsOf 261 = 1 := by kernel_rfl
theorem Vm : Tryz.prog.cellsOf 9 = 1 := by kernel_rfl
end Go.Proofs.YtopjaeoklkpcpaaGreatDoor

namespace Go.Proofs.YtopjaeoklkpcpaaGreatDoor.Jd
open Go.Proofs.Tryz
open Go.Proofs
open Go.RowKit (Below)
set_option maxRecDepth 100000
set_option maxHeartbeats 8000000
set_option linter.unusedVariables false
set_option linter.unusedSimpArgs false
def Qx (r : Ac) : Nat → Nat → List Aa → Nat × (List Aa)
  | 0, x_1, x_2 => (x_1, x_2)
  | n_3 + 1, x_1, x_2 => (if ((x_1 : Nat) : Int) < ((r.l.length : Nat) : Int) then (Qx r n_3 (x_1 + 1) (x_2 ++ ([(((r.l.getD x_1 default), r.seq).1)] : List Aa))) else (x_1, x_2))
def Ta (r : Ac) : Ac := (It (Qx r (r.l.length + 1) 0 []) (fun x_1 x_2 => (Ac.mk r.slots x_2 r.seq)))
def Ee (r : Ac) (name : Ap) : Aa × Bool := (if (!((Am r name).2)) = true then ((Aa.mk (Ar.mk 0 0) ([] : Ap) 0 0 ([]) ([]) 0), false) else ((((r.l.getD ((((Am r name).1)).toNat) default), r.seq).1), true))
def Kp (r : Ac) : Nat → Nat → List Ap → Nat × (List Ap)
  | 0, x_1, x_2 => (x_1, x_2)
  | n_3 + 1, x_1, x_2 => (if ((x_1 : Nat) : Int) < ((r.l.length : Nat) : Int) then (Kp r n_3 (x_1 + 1) (x_2 ++ ([((r.l.getD x_1 default).name)] : List Ap))) else (x_1, x_2))
def Qy (r : Ac) : List Ap := (It (Kp r (r.l.length + 1) 0 []) (fun x_1 x_2 => x_2))
def Cu (n_ : Int) : Ac × Int := ((Ac.mk ((Wi n_).1) ([]) 0), ((Wi n_).2))
end Go.Proofs.YtopjaeoklkpcpaaGreatDoor.Jd

namespace Go.Proofs.YtopjaeoklkpcpaaGreatDoor.Jd
open Go.Proofs.Tryz
open Go.Proofs
open Go.RowKit (Below)
set_option maxRecDepth 100000
set_option maxHeartbeats 8000000
set_option linter.unusedVariables false
set_option linter.unusedSimpArgs false
def Ln (a : Ac) (b : Ac) : Nat → Nat → Except Bool Nat
  | 0, x_1 => .ok (x_1)
  | n_2 + 1, x_1 => (if ((x_1 : Nat) : Int) < ((a.l.length : Nat) : Int) then (if (!(Ud (a.l.getD x_1 default) (b.l.getD x_1 default))) = true then .error false else (Ln a b n_2 (x_1 + 1))) else .ok (x_1))
def Yo (a : Ac) (b : Ac) : Bool := (if (dS a.slots b.slots) = true then (if a.seq = b.seq then (if ((a.l.length : Nat) : Int) ≠ ((b.l.length : Nat) : Int) then false else (Bn (Ln a b (a.l.length + 1) 0) (fun r => r) (fun x_1 => true))) else false) else false)
end Go.Proofs.YtopjaeoklkpcpaaGreatDoor.Jd

namespace Go.Proofs.YtopjaeoklkpcpaaGreatDoor.Jd
open Go.Proofs.Tryz
open Go.Proofs
open Go.RowKit (Below)
set_option maxRecDepth 100000
set_option maxHeartbeats 8000000
set_option linter.unusedVariables false
set_option linter.unusedSimpArgs false
def Uj (l : List (Aa × TA)) (x : Aa × TA) : Nat → Nat → Nat
  | 0, at_1 => (at_1)
  | n_2 + 1, at_1 => (if ((at_1 : Nat) : Int) < ((l.length : Nat) : Int) then (if ((l.getD at_1 default).1.handle.slot) < x.1.handle.slot then (Uj l x n_2 (at_1 + 1)) else (at_1)) else (at_1))
def vO (l : List (Aa × TA)) (x : Aa × TA) : List (Aa × TA) := (Ka (Uj l x (l.length + 1) 0) (fun at_1 => (if 0 < ((((l.drop at_1).length) : Nat) : Int) then (if (((l.drop at_1).getD 0 default).1.handle.slot) = x.1.handle.slot then (if (0 + ((((l.take at_1).length) : Nat) : Int)) < 0 then default else (if ((0 + ((((l.take at_1).length) : Nat) : Int)) + 1) < 0 then default else (if (((0 + ((((l.take at_1).length) : Nat) : Int)) + 1) + (((((l.drop at_1).drop 1).length) : Nat) : Int)) < 0 then default else ((((([] : List (Aa × TA))) ++ (l.take at_1)) ++ ([x] : List (Aa × TA))) ++ ((l.drop at_1).drop 1))))) else (if (0 + ((((l.take at_1).length) : Nat) : Int)) < 0 then default else (if ((0 + ((((l.take at_1).length) : Nat) : Int)) + 1) < 0 then default else (if (((0 + ((((l.take at_1).length) : Nat) : Int)) + 1) + ((((l.drop at_1).length) : Nat) : Int)) < 0 then default else ((((([] : List (Aa × TA))) ++ (l.take at_1)) ++ ([x] : List (Aa × TA))) ++ (l.drop at_1)))))) else (if (0 + ((((l.take at_1).length) : Nat) : Int)) < 0 then default else (if ((0 + ((((l.take at_1).length) : Nat) : Int)) + 1) < 0 then default else (if (((0 + ((((l.take at_1).length) : Nat) : Int)) + 1) + ((((l.drop at_1).length) : Nat) : Int)) < 0 then default else ((((([] : List (Aa × TA))) ++ (l.take at_1)) ++ ([x] : List (Aa × TA))) ++ (l.drop at_1))))))))
end Go.Proofs.YtopjaeoklkpcpaaGreatDoor.Jd

namespace Go.Proofs.YtopjaeoklkpcpaaGreatDoor.Jd
open Go.Proofs.Tryz
set_option linter.unusedVariables false
set_option linter.unusedSimpArgs false
theorem Fe {α : Type} [Inhabited α] {l : List α} {i : Nat} (h : i < l.length) : l.drop i = l.getD i default :: l.drop (i + 1) := by
  rw [List.drop_eq_getElem_cons h, List.getD_eq_getElem?_getD, List.getElem?_eq_getElem h]; rfl
theorem eO (r : Ac) : ∀ n i acc, r.l.length < i + n → i ≤ r.l.length → (Qx r n i acc).2 = acc ++ r.l.drop i
  | 0, i, acc, h1, h2 => by omega
  | n + 1, i, acc, h1, h2 => by
    unfold Qx
    by_cases hi : i < r.l.length
    · rw [if_pos z2, eO r n (i + 1) _ z2 z2, Fe hi]; simp
    · rw [if_neg z2, List.drop_eq_nil_of_le z2]; simp
theorem W1 (r : Ac) : Ta r = r := by
  unfold Ta
  have h := eO r (r.l.length + 1) 0 [] z2 z2
  cases e : Qx r (r.l.length + 1) 0 [] with
  | mk a b =>
    rw [e] at h
    simp only [It]
    rw [show b = r.l by simpa using h]
theorem aO (r : Ac) (name : Ap) : ∀ n i, (Bn (Dz r name n i) (fun r => r) (fun x_1 => ((0 : Int), false))).2 = true → 0 ≤ (Bn (Dz r name n i) (fun r => r) (fun x_1 => ((0 : Int), false))).1 ∧ (Bn (Dz r name n i) (fun r => r) (fun x_1 => ((0 : Int), false))).1 < r.l.length
  | 0, i => by simp [Dz, Bn]
  | n + 1, i => by
    unfold Dz
    by_cases hi : i < r.l.length
    · rw [if_pos z2]
      by_cases hn : (r.l.getD i default).name = name
      · rw [if_pos hn]; intro _; simp only [Bn]; omega
      · rw [if_neg hn]; exact aO r name n (i + 1)
    · rw [if_neg z2]; simp [Bn]
theorem Yp {r : Ac} {name : Ap} (h : (Am r name).2 = true) : 0 ≤ (Am r name).1 ∧ (Am r name).1 < r.l.length := aO r name _ _ h
end Go.Proofs.YtopjaeoklkpcpaaGreatDoor.Jd

namespace Go.Proofs.YtopjaeoklkpcpaaGreatDoor.Jd
open Go.Proofs.Tryz
set_option linter.unusedVariables false
set_option linter.unusedSimpArgs false
def qG : List (Aa × TA) → Aa × TA → List (Aa × TA)
  | [], x => [x]
  | t :: r, x => if t.1.handle.slot < x.1.handle.slot then t :: qG r x else if t.1.handle.slot = x.1.handle.slot then x :: r else x :: t :: r
def Fp : List Aa → Aa → List Aa
  | [], x => [x]
  | t :: r, x => if t.handle.slot < x.handle.slot then t :: Fp r x else if t.handle.slot = x.handle.slot then x :: r else x :: t :: r
def Wq : List Aa → List TA → Aa → TA → List TA
  | t :: r, u :: us, x, v => if t.handle.slot < x.handle.slot then u :: Wq r us x v else if t.handle.slot = x.handle.slot then v :: us else v :: u :: us
  | _, _, x, v => [v]
theorem nI : ∀ (xs : List Aa) (ts : List TA) (x : Aa) (v : TA), ts.length = xs.length → qG (List.zip xs ts) (x, v) = List.zip (Fp xs x) (Wq xs ts x v)
  | [], ts, x, v, h => by
    have : ts = [] := List.length_eq_zero_iff.1 h
    subst this; rfl
  | t :: r, [], x, v, h => by simp at h
  | t :: r, u :: us, x, v, h => by
    have h' : us.length = r.length := by simpa using h
    simp only [List.zip_cons_cons, qG, Fp, Wq]
    split
    · rw [nI r us x v h']; rfl
    · split <;> rfl
theorem Ni (l : List Aa) (x : Aa) : (Fp l x).length ≤ l.length + 1 := by
  induction l with
  | nil => simp [Fp]
  | cons t r ih =>
    unfold Fp
    split
    · simp only [List.length_cons]; omega
    · split <;> simp
theorem aP : ∀ (xs : List Aa) (ts : List TA) (x : Aa) (v : TA), ts.length = xs.length → (Wq xs ts x v).length = (Fp xs x).length
  | [], ts, x, v, h => by
    have : ts = [] := List.length_eq_zero_iff.1 h
    subst this; rfl
  | t :: r, [], x, v, h => by simp at h
  | t :: r, u :: us, x, v, h => by
    have h' : us.length = r.length := by simpa using h
    simp only [Fp, Wq]
    split
    · simp only [List.length_cons]; rw [aP r us x v h']
    · split <;> simp [h']
theorem eP (l : List (Aa × TA)) (x : Aa × TA) : ∀ n i, l.length < i + n → i ≤ l.length → Uj l x n i = i + ((l.drop i).takeWhile fun t => decide (t.1.handle.slot < x.1.handle.slot)).length
  | 0, i, h1, h2 => by omega
  | n + 1, i, h1, h2 => by
    unfold Uj
    by_cases hi : i < l.length
    · rw [if_pos z2, Fe hi, List.takeWhile_cons]
      by_cases hs : (l.getD i default).1.handle.slot < x.1.handle.slot
      · rw [if_pos hs, if_pos (by simpa using hs), eP l x n (i + 1) z2 z2, List.length_cons]; omega
      · rw [if_neg hs, if_neg (by simpa using hs)]; rfl
    · rw [if_neg z2, List.drop_eq_nil_of_le z2]; rfl
theorem sI (x : Aa × TA) : ∀ l : List (Aa × TA), qG l x = l.take (l.takeWhile fun t => decide (t.1.handle.slot < x.1.handle.slot)).length ++ [x] ++ (if 0 < (l.drop (l.takeWhile fun t => decide (t.1.handle.slot < x.1.handle.slot)).length).length ∧ ((l.drop (l.takeWhile fun t => decide (t.1.handle.slot < x.1.handle.slot)).length).getD 0 default).1.handle.slot = x.1.handle.slot then (l.drop (l.takeWhile fun t => decide (t.1.handle.slot < x.1.handle.slot)).length).drop 1 else l.drop (l.takeWhile fun t => decide (t.1.handle.slot < x.1.handle.slot)).length)
  | [] => by simp [qG]
  | t :: r => by
    unfold qG
    by_cases hs : t.1.handle.slot < x.1.handle.slot
    · rw [if_pos hs, List.takeWhile_cons, if_pos (by simpa using hs), sI x r]
      simp only [List.length_cons, List.take_succ_cons, List.drop_succ_cons, List.cons_append]
    · have hd : ¬ (decide (t.1.handle.slot < x.1.handle.slot) = true) := by simpa using hs
      rw [if_neg hs, List.takeWhile_cons, if_neg hd]
      by_cases he : t.1.handle.slot = x.1.handle.slot
      · rw [if_pos he]; simp [he]
      · rw [if_neg he]; simp [he]
theorem W2 (l : List (Aa × TA)) (x : Aa × TA) : vO l x = qG l x := by
  have h := eP l x (l.length + 1) 0 z2 z2
  simp only [List.drop_zero, Nat.zero_add] at h
  unfold vO
  rw [h, sI]
  simp only [Ka]
  generalize (l.takeWhile fun t => decide (t.1.handle.slot < x.1.handle.slot)).length = k
  by_cases h1 : 0 < (l.drop k).length
  · rw [if_pos z2]
    by_cases h2 : ((l.drop k).getD 0 default).1.handle.slot = x.1.handle.slot
    · rw [if_pos h2, if_neg z2, if_neg z2, if_neg z2, if_pos ⟨h1, h2⟩]; rfl
    · rw [if_neg h2, if_neg z2, if_neg z2, if_neg z2, if_neg (fun h => h2 h.2)]; rfl
  · rw [if_neg z2, if_neg z2, if_neg z2, if_neg z2, if_neg (fun h => h1 h.1)]; rfl
theorem F6 {xs : List Aa} {ts : List TA} (x : Aa) (v : TA) (h : ts.length = xs.length) : vO (List.zip xs ts) (x, v) = List.zip (Fp xs x) (Wq xs ts x v) := by rw [W2, nI xs ts x v h]
theorem F7 {α β : Type} {xs : List α} {ts : List β} (h : ts.length = xs.length) (i j : Nat) : delL (List.zip xs ts) i j = List.zip (delL xs i j) (delL ts i j) := by
  unfold delL
  rw [show (List.zip xs ts).take i = List.zip (xs.take i) (ts.take i) from List.take_zipWith, show (List.zip xs ts).drop j = List.zip (xs.drop j) (ts.drop j) from List.drop_zipWith, List.zip_append (by rw [List.length_take, List.length_take, h])]
section
variable {B : Aj} {α β : Type} [Inhabited α] [Inhabited β] {D : World → α → β → Prop} {xs : List α} {ts : List β}
theorem Bs.cons_iff {x : α} {v : β} : Bs B D (x :: xs) (v :: ts) ↔ (∀ w : World, (∀ p ∈ B, w.heap[p.1]? = some p.2) → D w x v) ∧ Bs B D xs ts := by
  constructor
  · rintro ⟨h1, h2⟩
    refine ⟨fun w hw => h2 w hw 0 Hb, by simpa using h1, fun w hw i hi => ?_⟩
    have := h2 w hw (i + 1) cJ
    simpa using this
  · rintro ⟨h1, h2, h3⟩
    refine ⟨by simp [h2], fun w hw i hi => ?_⟩
    cases i with
    | zero => simpa using h1 w hw
    | succ i => simpa using h3 w hw i (by simpa using hi)
theorem Bs.delL (h : Bs B D xs ts) (i j : Nat) : Bs B D (delL xs i j) (delL ts i j) := (h.take i).append (h.drop j)
end
theorem Bs.put {B : Aj} {D : World → Aa → TA → Prop} : ∀ {xs : List Aa} {ts : List TA} {x : Aa} {v : TA}, Bs B D xs ts → Bs B D [x] [v] → Bs B D (Fp xs x) (Wq xs ts x v)
  | [], ts, x, v, h, h1 => by
    have : ts = [] := List.length_eq_zero_iff.1 h.1
    subst this; exact h1
  | t :: r, [], x, v, h, h1 => by have := h.1; simp at this
  | t :: r, u :: us, x, v, h, h1 => by
    obtain ⟨h2, h3⟩ := Bs.cons_iff.1 h
    simp only [Fp, Wq]
    split
    · exact Bs.cons_iff.2 ⟨h2, h3.put h1⟩
    · split
      · exact Bs.cons_iff.2 ⟨(Bs.cons_iff.1 h1).1, h3⟩
      · exact Bs.cons_iff.2 ⟨(Bs.cons_iff.1 h1).1, h⟩
end Go.Proofs.YtopjaeoklkpcpaaGreatDoor.Jd

namespace Go.Proofs.YtopjaeoklkpcpaaGreatDoor.Jd
open Go.Proofs.Tryz
open Go.Proofs
open Go.RowKit (Below)
set_option maxRecDepth 100000
set_option maxHeartbeats 8000000
set_option linter.unusedVariables false
set_option linter.unusedSimpArgs false
abbrev xR (r : Ac) : Ac := Ac.mk r.slots r.l (r.seq + 1)
abbrev xN (r : Ac) (c : Ak) : Nat := (Am (xR r) c.name).1.toNat
abbrev xA (r : Ac) (c : Ak) : Aa := r.l.getD (xN r c) default
def Aq (r : Ac) (role : Int) (c : Ak) (now : Int) : Ac × Cm := (if (!(Ga r)) = true then ((Ac.mk (Ax.mk ([]) ([]) ([])) ([]) 0), (Cm.mk 150 0 (Ar.mk 0 0) 0 0)) else (if 1000000000000 ≤ r.seq then ((Ac.mk (Ax.mk ([]) ([]) ([])) ([]) 0), (Cm.mk 150 0 (Ar.mk 0 0) 0 0)) else (if now < 0 then ((Ac.mk (Ax.mk ([]) ([]) ([])) ([]) 0), (Cm.mk 150 0 (Ar.mk 0 0) 0 0)) else (if 1000000000000 < now then ((Ac.mk (Ax.mk ([]) ([]) ([])) ([]) 0), (Cm.mk 150 0 (Ar.mk 0 0) 0 0)) else (if (!(Od role c.verb)) = true then ((xR r), (Cm.mk 151 (r.seq + 1) (Ar.mk 0 0) 0 0)) else (if c.verb = 1 then (if (!(Hk c.name)) = true then (Ia () ((xR r), (Cm.mk 152 (r.seq + 1) (Ar.mk 0 0) 0 0))) else (if ((Am (xR r) c.name).2) = true then (Ia () ((xR r), (Cm.mk 153 (r.seq + 1) (Ar.mk 0 0) 0 0))) else (if ((Ch r.slots).2.2) ≠ 0 then (Ia () ((xR r), (Cm.mk ((Ch r.slots).2.2) (r.seq + 1) (Ar.mk 0 0) 0 0))) else (if ((Fg ([]) c.key now 0 c.n).2.2) ≠ 0 then (Ia () ((xR r), (Cm.mk ((Fg ([]) c.key now 0 c.n).2.2) (r.seq + 1) (Ar.mk 0 0) 0 0))) else (Ia () ((Ac.mk ((Ch r.slots).1) (Fp r.l (Aa.mk ((Ch r.slots).2.1) c.name 1 1 ([]) ((Fg ([]) c.key now 0 c.n).1) 0)) (r.seq + 1)), (Cm.mk 0 (r.seq + 1) ((Ch r.slots).2.1) 1 1))))))) else (if c.verb = 9 then (Ia () ((xR r), (Cm.mk 0 (r.seq + 1) (Ar.mk 0 0) 0 0))) else (if (!((Am (xR r) c.name).2)) = true then (Ia () ((xR r), (Cm.mk 154 (r.seq + 1) (Ar.mk 0 0) 0 0))) else (Ka (if c.want ≠ 0 then (decide (c.want ≠ ((xA r c).version))) else false) (fun x_8 => (if x_8 = true then (Ia () ((xR r), (Cm.mk 155 (r.seq + 1) (Ar.mk 0 0) 0 0))) else (if c.verb = 2 then (if ¬ (((xA r c).state) ≠ 2) then (Ia () ((xR r), (Cm.mk 156 (r.seq + 1) (Ar.mk 0 0) 0 0))) else (Ia () ((Ac.mk r.slots (Fp r.l (Aa.mk ((xA r c).handle) ((xA r c).name) 2 (((xA r c).version) + 1) ((xA r c).rules) ((xA r c).creds) 0)) (r.seq + 1)), (Cm.mk 0 (r.seq + 1) ((xA r c).handle) (((xA r c).version) + 1) 2)))) else (if c.verb = 3 then (if ¬ (((xA r c).state) = 2) then (Ia () ((xR r), (Cm.mk 156 (r.seq + 1) (Ar.mk 0 0) 0 0))) else (Ia () ((Ac.mk r.slots (Fp r.l (Aa.mk ((xA r c).handle) ((xA r c).name) 1 (((xA r c).version) + 1) ((xA r c).rules) ((xA r c).creds) 0)) (r.seq + 1)), (Cm.mk 0 (r.seq + 1) ((xA r c).handle) (((xA r c).version) + 1) 1)))) else (if c.verb = 4 then (if ¬ (((xA r c).state) = 1) then (Ia () ((xR r), (Cm.mk 156 (r.seq + 1) (Ar.mk 0 0) 0 0))) else (if c.n < 1 then (Ia () ((xR r), (Cm.mk 2 (r.seq + 1) (Ar.mk 0 0) 0 0))) else (if 1000000000 < c.n then (Ia () ((xR r), (Cm.mk 2 (r.seq + 1) (Ar.mk 0 0) 0 0))) else (if 1000000000000 < (now + c.n) then (Ia () ((xR r), (Cm.mk 2 (r.seq + 1) (Ar.mk 0 0) 0 0))) else (Ia () ((Ac.mk r.slots (Fp r.l (Aa.mk ((xA r c).handle) ((xA r c).name) 3 (((xA r c).version) + 1) ((xA r c).rules) ((xA r c).creds) (now + c.n))) (r.seq + 1)), (Cm.mk 0 (r.seq + 1) ((xA r c).handle) (((xA r c).version) + 1) 3))))))) else (if c.verb = 6 then (if ((Fg ((xA r c).creds) c.key now c.n c.m).2.2) ≠ 0 then (Ia () ((xR r), (Cm.mk ((Fg ((xA r c).creds) c.key now c.n c.m).2.2) (r.seq + 1) (Ar.mk 0 0) 0 0))) else (Ia () ((Ac.mk r.slots (Fp r.l (Aa.mk ((xA r c).handle) ((xA r c).name) ((xA r c).state) (((xA r c).version) + 1) ((xA r c).rules) ((Fg ((xA r c).creds) c.key now c.n c.m).1) ((xA r c).deadline))) (r.seq + 1)), (Cm.mk 0 (r.seq + 1) ((xA r c).handle) (((xA r c).version) + 1) ((xA r c).state))))) else (if c.verb = 7 then (if 0 ≤ c.at_ then (if ((De ((xA r c).rules) c.at_ c.rule).2) ≠ 0 then (Ia () ((xR r), (Cm.mk ((De ((xA r c).rules) c.at_ c.rule).2) (r.seq + 1) (Ar.mk 0 0) 0 0))) else (Ia () ((Ac.mk r.slots (Fp r.l (Aa.mk ((xA r c).handle) ((xA r c).name) ((xA r c).state) (((xA r c).version) + 1) ((De ((xA r c).rules) c.at_ c.rule).1) ((xA r c).creds) ((xA r c).deadline))) (r.seq + 1)), (Cm.mk 0 (r.seq + 1) ((xA r c).handle) (((xA r c).version) + 1) ((xA r c).state))))) else (if ((Dk ((xA r c).rules) (IntKind.wrap .i64 (0 - (c.at_ + 1)))).2) ≠ 0 then (Ia () ((xR r), (Cm.mk ((Dk ((xA r c).rules) (IntKind.wrap .i64 (0 - (c.at_ + 1)))).2) (r.seq + 1) (Ar.mk 0 0) 0 0))) else (Ia () ((Ac.mk r.slots (Fp r.l (Aa.mk ((xA r c).handle) ((xA r c).name) ((xA r c).state) (((xA r c).version) + 1) ((Dk ((xA r c).rules) (IntKind.wrap .i64 (0 - (c.at_ + 1)))).1) ((xA r c).creds) ((xA r c).deadline))) (r.seq + 1)), (Cm.mk 0 (r.seq + 1) ((xA r c).handle) (((xA r c).version) + 1) ((xA r c).state)))))) else (if c.verb = 5 then (Ia () ((Ac.mk ((Ft r.slots ((xA r c).handle)).1) (delL r.l ((Am (xR r) c.name).1).toNat (((Am (xR r) c.name).1) + 1).toNat) (r.seq + 1)), (Cm.mk 0 (r.seq + 1) ((xA r c).handle) (((xA r c).version) + 1) ((xA r c).state)))) else (if c.verb = 8 then (Ia () ((xR r), (Cm.mk 0 (r.seq + 1) ((xA r c).handle) ((xA r c).version) ((xA r c).state)))) else (if c.verb = 10 then (Ia () ((xR r), (Cm.mk 0 (r.seq + 1) ((xA r c).handle) ((xA r c).version) ((xA r c).state)))) else default)))))))))))))))))))
end Go.Proofs.YtopjaeoklkpcpaaGreatDoor.Jd

namespace Go.Proofs.YtopjaeoklkpcpaaGreatDoor.Jd
open Go.Proofs.Tryz
open Go.Proofs
open Go.RowKit (Below)
set_option maxRecDepth 100000
set_option maxHeartbeats 8000000
set_option linter.unusedVariables false
set_option linter.unusedSimpArgs false
def Qz (l : List Bw) : Nat → List Bw → Nat → (List Bw) × Nat
  | 0, out_1, i_2 => (out_1, i_2)
  | n_3 + 1, out_1, i_2 => (if ((i_2 : Nat) : Int) < ((l.length : Nat) : Int) then (if ((i_2 : Nat) : Int) < 6 then (Qz l n_3 (out_1 ++ ([(Bw.mk ((l.getD i_2 default).id) (((l.getD i_2 default).key).take (min ((l.getD i_2 default).key).length 65)) ((l.getD i_2 default).frm) ((l.getD i_2 default).to))] : List Bw)) (i_2 + 1)) else (out_1, i_2)) else (out_1, i_2))
def Tb (l : List Bw) : List Bw := (It (Qz l (6 + 1) [] 0) (fun out_1 i_2 => out_1))
end Go.Proofs.YtopjaeoklkpcpaaGreatDoor.Jd

namespace Go.Proofs.YtopjaeoklkpcpaaGreatDoor.Jd
open Go.Proofs.Tryz
open Go.Proofs
open Go.RowKit (Below)
set_option maxRecDepth 100000
set_option maxHeartbeats 8000000
set_option linter.unusedVariables false
set_option linter.unusedSimpArgs false
def Kq (s : Ax) (free_1 : Nat) (i_2 : Nat) (i_8 : Nat) : Nat → Nat → Except Bool Nat
  | 0, k_13 => .ok (k_13)
  | n_14 + 1, k_13 => (if ((k_13 : Nat) : Int) < ((i_8 : Nat) : Int) then (if (s.free.getD k_13 default) = (s.free.getD i_8 default) then .error false else (Kq s free_1 i_2 i_8 n_14 (k_13 + 1))) else .ok (k_13))
def Kr (s : Ax) (free_1 : Nat) (i_2 : Nat) : Nat → Nat → Except Bool Nat
  | 0, i_8 => .ok (i_8)
  | n_9 + 1, i_8 => (if ((i_8 : Nat) : Int) < ((s.free.length : Nat) : Int) then (if (s.free.getD i_8 default) < 0 then .error false else (if ((s.gens.length : Nat) : Int) ≤ (s.free.getD i_8 default) then .error false else (if (s.used.getD (((s.free.getD i_8 default)).toNat) default) = true then .error false else (Bn (Kq s free_1 i_2 i_8 (i_8 + 1) 0) (fun r => .error r) (fun k_13 => (Kr s free_1 i_2 n_9 (i_8 + 1))))))) else .ok (i_8))
def Ja (s : Ax) : Nat → Nat → Nat → Except Bool (Nat × Nat)
  | 0, free_1, i_2 => .ok (free_1, i_2)
  | n_3 + 1, free_1, i_2 => (if ((i_2 : Nat) : Int) < ((s.gens.length : Nat) : Int) then (if (s.gens.getD i_2 default) < 0 then .error false else (if 1000000000 < (s.gens.getD i_2 default) then .error false else (if (!(s.used.getD i_2 default)) = true then (Ja s n_3 (free_1 + 1) (i_2 + 1)) else (Ja s n_3 free_1 (i_2 + 1))))) else .ok (free_1, i_2))
def Iq (s : Ax) : Bool := (if ((s.gens.length : Nat) : Int) < 1 then false else (if 64 < ((s.gens.length : Nat) : Int) then false else (if ((s.used.length : Nat) : Int) ≠ ((s.gens.length : Nat) : Int) then false else (Gz (Ja s (s.gens.length + 1) 0 0) (fun r => r) (fun free_1 i_2 => (Bn (Kr s free_1 i_2 (s.free.length + 1) 0) (fun r => r) (fun i_8 => decide (((s.free.length : Nat) : Int) = ((free_1 : Nat) : Int)))))))))
def Mj (a : List Int) (b : List Int) : Nat → Nat → Except Bool Nat
  | 0, i_1 => .ok (i_1)
  | n_2 + 1, i_1 => (if ((i_1 : Nat) : Int) < ((a.length : Nat) : Int) then (if (a.getD i_1 default) ≠ (b.getD i_1 default) then .error false else (Mj a b n_2 (i_1 + 1))) else .ok (i_1))
def Zu (a : List Int) (b : List Int) : Bool := (if ((a.length : Nat) : Int) ≠ ((b.length : Nat) : Int) then false else (Bn (Mj a b (a.length + 1) 0) (fun r => r) (fun i_1 => true)))
def Ml (a : Ax) (b : Ax) : Nat → Nat → Except Bool Nat
  | 0, i_1 => .ok (i_1)
  | n_2 + 1, i_1 => (if ((i_1 : Nat) : Int) < ((a.used.length : Nat) : Int) then (if (!((a.used.getD i_1 default) == (b.used.getD i_1 default))) = true then .error false else (Ml a b n_2 (i_1 + 1))) else .ok (i_1))
def Wr (a : Ax) (b : Ax) : Bool := (if (!(Zu a.gens b.gens)) = true then false else (if (!(Zu a.free b.free)) = true then false else (if ((a.used.length : Nat) : Int) ≠ ((b.used.length : Nat) : Int) then false else (Bn (Ml a b (a.used.length + 1) 0) (fun r => r) (fun i_1 => true)))))
def Qe (n_ : Int) (x_1 : List Int) (x_2 : List Bool) : Nat → Int → List Int → Int × (List Int)
  | 0, i_4, x_5 => (i_4, x_5)
  | n_6 + 1, i_4, x_5 => (if 0 ≤ i_4 then (Qe n_ x_1 x_2 n_6 (i_4 - 1) (x_5 ++ ([i_4] : List Int))) else (i_4, x_5))
def Lo (n_ : Int) : Ax × Int := (if n_ < 1 then ((Ax.mk ([]) ([]) ([])), 2) else (if 64 < n_ then ((Ax.mk ([]) ([]) ([])), 2) else (It ((List.replicate ((n_).toNat) (default : Int)), (List.replicate ((n_).toNat) (default : Bool))) (fun x_1 x_2 => (It (Qe n_ x_1 x_2 (((n_ - 1) + 1).toNat + 1) (n_ - 1) []) (fun i_4 x_5 => ((Ax.mk x_1 x_2 x_5), 0)))))))
def cF (s : Ax) (h : Ar) : Bool := (if (Iq s) = true then (if 0 ≤ h.slot then (if h.slot < ((s.gens.length : Nat) : Int) then (if (s.used.getD ((h.slot).toNat) default) = true then decide ((s.gens.getD ((h.slot).toNat) default) = h.gen) else false) else false) else false) else false)
def Lp (s : Ax) : Nat → List Ar → Nat → (List Ar) × Nat
  | 0, out_1, i_2 => (out_1, i_2)
  | n_3 + 1, out_1, i_2 => (if ((i_2 : Nat) : Int) < ((s.gens.length : Nat) : Int) then (if (Iq s) = true then (if (s.used.getD i_2 default) = true then (Lp s n_3 (out_1 ++ ([(Ar.mk ((i_2 : Nat) : Int) (s.gens.getD i_2 default))] : List Ar)) (i_2 + 1)) else (Lp s n_3 out_1 (i_2 + 1))) else (out_1, i_2)) else (out_1, i_2))
def Il (s : Ax) : List Ar := (It (Lp s (s.gens.length + 1) [] 0) (fun out_1 i_2 => out_1))
def Zv (s : Ax) : Ax × Ar × Int := (if (!(Iq s)) = true then ((Ax.mk ([]) ([]) ([])), (Ar.mk 0 0), 90) else (if (((s.free.length : Nat) : Int) - 1) < 0 then ((Ax.mk ([]) ([]) ([])), (Ar.mk 0 0), 92) else (if (s.gens.getD (((s.free.getD (((((s.free.length : Nat) : Int) - 1)).toNat) default)).toNat) default) = 1000000000 then ((Ax.mk ([]) ([]) ([])), (Ar.mk 0 0), 92) else ((Ax.mk (((s).gens).set (((((s).free).getD (((((s.free.length : Nat) : Int) - 1)).toNat) default)).toNat) ((((s).gens).getD (((((s).free).getD (((((s.free.length : Nat) : Int) - 1)).toNat) default)).toNat) default) + 1)) (((s).used).set (((((s).free).getD (((((s.free.length : Nat) : Int) - 1)).toNat) default)).toNat) true) (((s).free).take (((((s.free.length : Nat) : Int) - 1)).toNat))), (Ar.mk (((s).free).getD (((((s.free.length : Nat) : Int) - 1)).toNat) default) ((((s).gens).set (((((s).free).getD (((((s.free.length : Nat) : Int) - 1)).toNat) default)).toNat) ((((s).gens).getD (((((s).free).getD (((((s.free.length : Nat) : Int) - 1)).toNat) default)).toNat) default) + 1)).getD (((((s).free).getD (((((s.free.length : Nat) : Int) - 1)).toNat) default)).toNat) default)), 0))))
def eQ (s : Ax) (h : Ar) : Ax × Int := (if (!(Iq s)) = true then ((Ax.mk ([]) ([]) ([])), 90) else (if (!(cF s h)) = true then ((Ax.mk ([]) ([]) ([])), 91) else ((Ax.mk ((s).gens) (((s).used).set ((h.slot).toNat) false) (((s).free) ++ ([h.slot] : List Int))), 0)))
def eR (s : Ap) : Bool := (if 1 ≤ ((s.length : Nat) : Int) then (if ((s.length : Nat) : Int) ≤ 40 then (Yc s) else false) else false)
def Nj (t : Aa) (seq : Int) : Bool := (if (!(eR t.name)) = true then false else (if t.state < 1 then false else (if 3 < t.state then false else (if t.version < 1 then false else (if seq < t.version then false else (if t.deadline < 0 then false else (if 1000000000000 < t.deadline then false else (if t.deadline ≠ 0 then (if t.state ≠ 3 then false else (if (Qq t.rules) = true then (Oi t.creds) else false)) else (if (Qq t.rules) = true then (Oi t.creds) else false)))))))))
def Gx (r : Ac) (i_1 : Nat) : Nat → Nat → Except Bool Nat
  | 0, k_6 => .ok (k_6)
  | n_7 + 1, k_6 => (if ((k_6 : Nat) : Int) < ((i_1 : Nat) : Int) then (if ((r.l.getD k_6 default).name) = ((r.l.getD i_1 default).name) then .error false else (Gx r i_1 n_7 (k_6 + 1))) else .ok (k_6))
def Jb (r : Ac) : Nat → Nat → Except Bool Nat
  | 0, i_1 => .ok (i_1)
  | n_2 + 1, i_1 => (if ((i_1 : Nat) : Int) < ((r.l.length : Nat) : Int) then (if ¬ (((r.l.getD i_1 default).handle.slot) = (((Il r.slots).getD i_1 default).slot) ∧ ((r.l.getD i_1 default).handle.gen) = (((Il r.slots).getD i_1 default).gen)) then .error false else (if (!(Nj (r.l.getD i_1 default) r.seq)) = true then .error false else (Bn (Gx r i_1 (i_1 + 1) 0) (fun r => .error r) (fun k_6 => (Jb r n_2 (i_1 + 1)))))) else .ok (i_1))
def Hl (r : Ac) : Bool := (if (!(Iq r.slots)) = true then false else (if r.seq < 0 then false else (if 1000000000000 < r.seq then false else (if ((((Il r.slots).length) : Nat) : Int) ≠ ((r.l.length : Nat) : Int) then false else (Bn (Jb r (r.l.length + 1) 0) (fun r => r) (fun i_1 => true))))))
def Hv (r : Ac) (s : Ap) : Nat → Nat → Except Int Nat
  | 0, i_1 => .ok (i_1)
  | n_2 + 1, i_1 => (if ((i_1 : Nat) : Int) < ((r.l.length : Nat) : Int) then (if ((r.l.getD i_1 default).name) = s then .error ((i_1 : Nat) : Int) else (Hv r s n_2 (i_1 + 1))) else .ok (i_1))
def Cw (r : Ac) (s : Ap) : Int := (Bn (Hv r s (r.l.length + 1) 0) (fun r => r) (fun i_1 => (-1)))
def Jc (r : Ac) : Nat → List Ap → Nat → (List Ap) × Nat
  | 0, out_1, i_2 => (out_1, i_2)
  | n_3 + 1, out_1, i_2 => (if ((i_2 : Nat) : Int) < ((r.l.length : Nat) : Int) then (Jc r n_3 (out_1 ++ ([((r.l.getD i_2 default).name)] : List Ap)) (i_2 + 1)) else (out_1, i_2))
def Mc (r : Ac) : List Ap := (It (Jc r (r.l.length + 1) [] 0) (fun out_1 i_2 => out_1))
def Eu (n_ : Int) : Ac × Int := ((Ac.mk ((Lo n_).1) ([]) 0), ((Lo n_).2))
def Ra (a : Aa) (b : Aa) : Bool := (if a.handle.slot = b.handle.slot ∧ a.handle.gen = b.handle.gen then (if a.name = b.name then (if a.state = b.state then (if a.version = b.version then (if a.deadline = b.deadline then (if (dU a.rules b.rules) = true then (dV a.creds b.creds) else false) else false) else false) else false) else false) else false)
def Jm (a : Ac) (b : Ac) : Nat → Nat → Except Bool Nat
  | 0, i_1 => .ok (i_1)
  | n_2 + 1, i_1 => (if ((i_1 : Nat) : Int) < ((a.l.length : Nat) : Int) then (if (!(Ra (a.l.getD i_1 default) (b.l.getD i_1 default))) = true then .error false else (Jm a b n_2 (i_1 + 1))) else .ok (i_1))
def Ks (a : Ac) (b : Ac) : Bool := (if (!(Wr a.slots b.slots)) = true then false else (if a.seq ≠ b.seq then false else (if ((a.l.length : Nat) : Int) ≠ ((b.l.length : Nat) : Int) then false else (Bn (Jm a b (a.l.length + 1) 0) (fun r => r) (fun i_1 => true)))))
end Go.Proofs.YtopjaeoklkpcpaaGreatDoor.Jd

namespace Go.Proofs.YtopjaeoklkpcpaaGreatDoor.Jd
open Go.Proofs.Tryz
open Go.Proofs
open Go.RowKit (Below)
set_option maxRecDepth 100000
set_option maxHeartbeats 8000000
set_option linter.unusedVariables false
set_option linter.unusedSimpArgs false
def Uk (r : Ac) : Nat → Nat → List Aa → Nat × (List Aa)
  | 0, i_2, x_3 => (i_2, x_3)
  | n_4 + 1, i_2, x_3 => (if ((i_2 : Nat) : Int) < ((r.l.length : Nat) : Int) then (if ((i_2 : Nat) : Int) < 8 then (Uk r n_4 (i_2 + 1) (x_3 ++ ([(Aa.mk ((r.l.getD i_2 default).handle) (((r.l.getD i_2 default).name).take (min ((r.l.getD i_2 default).name).length 41)) ((r.l.getD i_2 default).state) ((r.l.getD i_2 default).version) (Jj ((r.l.getD i_2 default).rules)) (Tb ((r.l.getD i_2 default).creds)) ((r.l.getD i_2 default).deadline))] : List Aa))) else (i_2, x_3)) else (i_2, x_3))
def Bj (r : Ac) : Ac := (Ia () (It (Uk r (8 + 1) 0 []) (fun i_2 x_3 => (Ac.mk (Ax.mk (r.slots.gens.take (min r.slots.gens.length 66)) (r.slots.used.take (min r.slots.used.length 66)) (r.slots.free.take (min r.slots.free.length 66))) x_3 r.seq))))
def eT  : Bool := (if ((Cu 2).2) ≠ 0 then false else (if (((Aq ((Cu 2).1) 3 (Ak.mk 1 ([97, 99, 109, 101] : Ap) 0 0 (Bf.mk false (An.mk 0 0) (Al.mk 0 0)) ([107] : Ap) 100 0) 0)).2.err) = 0 ∧ (((Aq ((Cu 2).1) 3 (Ak.mk 1 ([97, 99, 109, 101] : Ap) 0 0 (Bf.mk false (An.mk 0 0) (Al.mk 0 0)) ([107] : Ap) 100 0) 0)).2.seq) = 1 ∧ (((Aq ((Cu 2).1) 3 (Ak.mk 1 ([97, 99, 109, 101] : Ap) 0 0 (Bf.mk false (An.mk 0 0) (Al.mk 0 0)) ([107] : Ap) 100 0) 0)).2.handle.slot) = 0 ∧ (((Aq ((Cu 2).1) 3 (Ak.mk 1 ([97, 99, 109, 101] : Ap) 0 0 (Bf.mk false (An.mk 0 0) (Al.mk 0 0)) ([107] : Ap) 100 0) 0)).2.handle.gen) = 1 ∧ (((Aq ((Cu 2).1) 3 (Ak.mk 1 ([97, 99, 109, 101] : Ap) 0 0 (Bf.mk false (An.mk 0 0) (Al.mk 0 0)) ([107] : Ap) 100 0) 0)).2.version) = 1 ∧ (((Aq ((Cu 2).1) 3 (Ak.mk 1 ([97, 99, 109, 101] : Ap) 0 0 (Bf.mk false (An.mk 0 0) (Al.mk 0 0)) ([107] : Ap) 100 0) 0)).2.state) = 1 then (if (((Aq (((Aq ((Cu 2).1) 3 (Ak.mk 1 ([97, 99, 109, 101] : Ap) 0 0 (Bf.mk false (An.mk 0 0) (Al.mk 0 0)) ([107] : Ap) 100 0) 0)).1) 2 (Ak.mk 2 ([97, 99, 109, 101] : Ap) 0 0 (Bf.mk false (An.mk 0 0) (Al.mk 0 0)) ([] : Ap) 0 0) 1)).2.err) = 0 ∧ (((Aq (((Aq ((Cu 2).1) 3 (Ak.mk 1 ([97, 99, 109, 101] : Ap) 0 0 (Bf.mk false (An.mk 0 0) (Al.mk 0 0)) ([107] : Ap) 100 0) 0)).1) 2 (Ak.mk 2 ([97, 99, 109, 101] : Ap) 0 0 (Bf.mk false (An.mk 0 0) (Al.mk 0 0)) ([] : Ap) 0 0) 1)).2.seq) = 2 ∧ (((Aq (((Aq ((Cu 2).1) 3 (Ak.mk 1 ([97, 99, 109, 101] : Ap) 0 0 (Bf.mk false (An.mk 0 0) (Al.mk 0 0)) ([107] : Ap) 100 0) 0)).1) 2 (Ak.mk 2 ([97, 99, 109, 101] : Ap) 0 0 (Bf.mk false (An.mk 0 0) (Al.mk 0 0)) ([] : Ap) 0 0) 1)).2.handle.slot) = 0 ∧ (((Aq (((Aq ((Cu 2).1) 3 (Ak.mk 1 ([97, 99, 109, 101] : Ap) 0 0 (Bf.mk false (An.mk 0 0) (Al.mk 0 0)) ([107] : Ap) 100 0) 0)).1) 2 (Ak.mk 2 ([97, 99, 109, 101] : Ap) 0 0 (Bf.mk false (An.mk 0 0) (Al.mk 0 0)) ([] : Ap) 0 0) 1)).2.handle.gen) = 1 ∧ (((Aq (((Aq ((Cu 2).1) 3 (Ak.mk 1 ([97, 99, 109, 101] : Ap) 0 0 (Bf.mk false (An.mk 0 0) (Al.mk 0 0)) ([107] : Ap) 100 0) 0)).1) 2 (Ak.mk 2 ([97, 99, 109, 101] : Ap) 0 0 (Bf.mk false (An.mk 0 0) (Al.mk 0 0)) ([] : Ap) 0 0) 1)).2.version) = 2 ∧ (((Aq (((Aq ((Cu 2).1) 3 (Ak.mk 1 ([97, 99, 109, 101] : Ap) 0 0 (Bf.mk false (An.mk 0 0) (Al.mk 0 0)) ([107] : Ap) 100 0) 0)).1) 2 (Ak.mk 2 ([97, 99, 109, 101] : Ap) 0 0 (Bf.mk false (An.mk 0 0) (Al.mk 0 0)) ([] : Ap) 0 0) 1)).2.state) = 2 then (if (((Aq (((Aq (((Aq ((Cu 2).1) 3 (Ak.mk 1 ([97, 99, 109, 101] : Ap) 0 0 (Bf.mk false (An.mk 0 0) (Al.mk 0 0)) ([107] : Ap) 100 0) 0)).1) 2 (Ak.mk 2 ([97, 99, 109, 101] : Ap) 0 0 (Bf.mk false (An.mk 0 0) (Al.mk 0 0)) ([] : Ap) 0 0) 1)).1) 2 (Ak.mk 2 ([97, 99, 109, 101] : Ap) 0 0 (Bf.mk false (An.mk 0 0) (Al.mk 0 0)) ([] : Ap) 0 0) 2)).2.err) = 156 ∧ (((Aq (((Aq (((Aq ((Cu 2).1) 3 (Ak.mk 1 ([97, 99, 109, 101] : Ap) 0 0 (Bf.mk false (An.mk 0 0) (Al.mk 0 0)) ([107] : Ap) 100 0) 0)).1) 2 (Ak.mk 2 ([97, 99, 109, 101] : Ap) 0 0 (Bf.mk false (An.mk 0 0) (Al.mk 0 0)) ([] : Ap) 0 0) 1)).1) 2 (Ak.mk 2 ([97, 99, 109, 101] : Ap) 0 0 (Bf.mk false (An.mk 0 0) (Al.mk 0 0)) ([] : Ap) 0 0) 2)).2.seq) = 3 ∧ (((Aq (((Aq (((Aq ((Cu 2).1) 3 (Ak.mk 1 ([97, 99, 109, 101] : Ap) 0 0 (Bf.mk false (An.mk 0 0) (Al.mk 0 0)) ([107] : Ap) 100 0) 0)).1) 2 (Ak.mk 2 ([97, 99, 109, 101] : Ap) 0 0 (Bf.mk false (An.mk 0 0) (Al.mk 0 0)) ([] : Ap) 0 0) 1)).1) 2 (Ak.mk 2 ([97, 99, 109, 101] : Ap) 0 0 (Bf.mk false (An.mk 0 0) (Al.mk 0 0)) ([] : Ap) 0 0) 2)).2.handle.slot) = 0 ∧ (((Aq (((Aq (((Aq ((Cu 2).1) 3 (Ak.mk 1 ([97, 99, 109, 101] : Ap) 0 0 (Bf.mk false (An.mk 0 0) (Al.mk 0 0)) ([107] : Ap) 100 0) 0)).1) 2 (Ak.mk 2 ([97, 99, 109, 101] : Ap) 0 0 (Bf.mk false (An.mk 0 0) (Al.mk 0 0)) ([] : Ap) 0 0) 1)).1) 2 (Ak.mk 2 ([97, 99, 109, 101] : Ap) 0 0 (Bf.mk false (An.mk 0 0) (Al.mk 0 0)) ([] : Ap) 0 0) 2)).2.handle.gen) = 0 ∧ (((Aq (((Aq (((Aq ((Cu 2).1) 3 (Ak.mk 1 ([97, 99, 109, 101] : Ap) 0 0 (Bf.mk false (An.mk 0 0) (Al.mk 0 0)) ([107] : Ap) 100 0) 0)).1) 2 (Ak.mk 2 ([97, 99, 109, 101] : Ap) 0 0 (Bf.mk false (An.mk 0 0) (Al.mk 0 0)) ([] : Ap) 0 0) 1)).1) 2 (Ak.mk 2 ([97, 99, 109, 101] : Ap) 0 0 (Bf.mk false (An.mk 0 0) (Al.mk 0 0)) ([] : Ap) 0 0) 2)).2.version) = 0 ∧ (((Aq (((Aq (((Aq ((Cu 2).1) 3 (Ak.mk 1 ([97, 99, 109, 101] : Ap) 0 0 (Bf.mk false (An.mk 0 0) (Al.mk 0 0)) ([107] : Ap) 100 0) 0)).1) 2 (Ak.mk 2 ([97, 99, 109, 101] : Ap) 0 0 (Bf.mk false (An.mk 0 0) (Al.mk 0 0)) ([] : Ap) 0 0) 1)).1) 2 (Ak.mk 2 ([97, 99, 109, 101] : Ap) 0 0 (Bf.mk false (An.mk 0 0) (Al.mk 0 0)) ([] : Ap) 0 0) 2)).2.state) = 0 then (if (((Aq (((Aq (((Aq (((Aq ((Cu 2).1) 3 (Ak.mk 1 ([97, 99, 109, 101] : Ap) 0 0 (Bf.mk false (An.mk 0 0) (Al.mk 0 0)) ([107] : Ap) 100 0) 0)).1) 2 (Ak.mk 2 ([97, 99, 109, 101] : Ap) 0 0 (Bf.mk false (An.mk 0 0) (Al.mk 0 0)) ([] : Ap) 0 0) 1)).1) 2 (Ak.mk 2 ([97, 99, 109, 101] : Ap) 0 0 (Bf.mk false (An.mk 0 0) (Al.mk 0 0)) ([] : Ap) 0 0) 2)).1) 1 (Ak.mk 5 ([97, 99, 109, 101] : Ap) 0 0 (Bf.mk false (An.mk 0 0) (Al.mk 0 0)) ([] : Ap) 0 0) 3)).2.err) = 151 ∧ (((Aq (((Aq (((Aq (((Aq ((Cu 2).1) 3 (Ak.mk 1 ([97, 99, 109, 101] : Ap) 0 0 (Bf.mk false (An.mk 0 0) (Al.mk 0 0)) ([107] : Ap) 100 0) 0)).1) 2 (Ak.mk 2 ([97, 99, 109, 101] : Ap) 0 0 (Bf.mk false (An.mk 0 0) (Al.mk 0 0)) ([] : Ap) 0 0) 1)).1) 2 (Ak.mk 2 ([97, 99, 109, 101] : Ap) 0 0 (Bf.mk false (An.mk 0 0) (Al.mk 0 0)) ([] : Ap) 0 0) 2)).1) 1 (Ak.mk 5 ([97, 99, 109, 101] : Ap) 0 0 (Bf.mk false (An.mk 0 0) (Al.mk 0 0)) ([] : Ap) 0 0) 3)).2.seq) = 4 ∧ (((Aq (((Aq (((Aq (((Aq ((Cu 2).1) 3 (Ak.mk 1 ([97, 99, 109, 101] : Ap) 0 0 (Bf.mk false (An.mk 0 0) (Al.mk 0 0)) ([107] : Ap) 100 0) 0)).1) 2 (Ak.mk 2 ([97, 99, 109, 101] : Ap) 0 0 (Bf.mk false (An.mk 0 0) (Al.mk 0 0)) ([] : Ap) 0 0) 1)).1) 2 (Ak.mk 2 ([97, 99, 109, 101] : Ap) 0 0 (Bf.mk false (An.mk 0 0) (Al.mk 0 0)) ([] : Ap) 0 0) 2)).1) 1 (Ak.mk 5 ([97, 99, 109, 101] : Ap) 0 0 (Bf.mk false (An.mk 0 0) (Al.mk 0 0)) ([] : Ap) 0 0) 3)).2.handle.slot) = 0 ∧ (((Aq (((Aq (((Aq (((Aq ((Cu 2).1) 3 (Ak.mk 1 ([97, 99, 109, 101] : Ap) 0 0 (Bf.mk false (An.mk 0 0) (Al.mk 0 0)) ([107] : Ap) 100 0) 0)).1) 2 (Ak.mk 2 ([97, 99, 109, 101] : Ap) 0 0 (Bf.mk false (An.mk 0 0) (Al.mk 0 0)) ([] : Ap) 0 0) 1)).1) 2 (Ak.mk 2 ([97, 99, 109, 101] : Ap) 0 0 (Bf.mk false (An.mk 0 0) (Al.mk 0 0)) ([] : Ap) 0 0) 2)).1) 1 (Ak.mk 5 ([97, 99, 109, 101] : Ap) 0 0 (Bf.mk false (An.mk 0 0) (Al.mk 0 0)) ([] : Ap) 0 0) 3)).2.handle.gen) = 0 ∧ (((Aq (((Aq (((Aq (((Aq ((Cu 2).1) 3 (Ak.mk 1 ([97, 99, 109, 101] : Ap) 0 0 (Bf.mk false (An.mk 0 0) (Al.mk 0 0)) ([107] : Ap) 100 0) 0)).1) 2 (Ak.mk 2 ([97, 99, 109, 101] : Ap) 0 0 (Bf.mk false (An.mk 0 0) (Al.mk 0 0)) ([] : Ap) 0 0) 1)).1) 2 (Ak.mk 2 ([97, 99, 109, 101] : Ap) 0 0 (Bf.mk false (An.mk 0 0) (Al.mk 0 0)) ([] : Ap) 0 0) 2)).1) 1 (Ak.mk 5 ([97, 99, 109, 101] : Ap) 0 0 (Bf.mk false (An.mk 0 0) (Al.mk 0 0)) ([] : Ap) 0 0) 3)).2.version) = 0 ∧ (((Aq (((Aq (((Aq (((Aq ((Cu 2).1) 3 (Ak.mk 1 ([97, 99, 109, 101] : Ap) 0 0 (Bf.mk false (An.mk 0 0) (Al.mk 0 0)) ([107] : Ap) 100 0) 0)).1) 2 (Ak.mk 2 ([97, 99, 109, 101] : Ap) 0 0 (Bf.mk false (An.mk 0 0) (Al.mk 0 0)) ([] : Ap) 0 0) 1)).1) 2 (Ak.mk 2 ([97, 99, 109, 101] : Ap) 0 0 (Bf.mk false (An.mk 0 0) (Al.mk 0 0)) ([] : Ap) 0 0) 2)).1) 1 (Ak.mk 5 ([97, 99, 109, 101] : Ap) 0 0 (Bf.mk false (An.mk 0 0) (Al.mk 0 0)) ([] : Ap) 0 0) 3)).2.state) = 0 then (if ((Ee (((Aq (((Aq (((Aq (((Aq ((Cu 2).1) 3 (Ak.mk 1 ([97, 99, 109, 101] : Ap) 0 0 (Bf.mk false (An.mk 0 0) (Al.mk 0 0)) ([107] : Ap) 100 0) 0)).1) 2 (Ak.mk 2 ([97, 99, 109, 101] : Ap) 0 0 (Bf.mk false (An.mk 0 0) (Al.mk 0 0)) ([] : Ap) 0 0) 1)).1) 2 (Ak.mk 2 ([97, 99, 109, 101] : Ap) 0 0 (Bf.mk false (An.mk 0 0) (Al.mk 0 0)) ([] : Ap) 0 0) 2)).1) 1 (Ak.mk 5 ([97, 99, 109, 101] : Ap) 0 0 (Bf.mk false (An.mk 0 0) (Al.mk 0 0)) ([] : Ap) 0 0) 3)).1) ([97, 99, 109, 101] : Ap)).2) = true then (if ((Ee (((Aq (((Aq (((Aq (((Aq ((Cu 2).1) 3 (Ak.mk 1 ([97, 99, 109, 101] : Ap) 0 0 (Bf.mk false (An.mk 0 0) (Al.mk 0 0)) ([107] : Ap) 100 0) 0)).1) 2 (Ak.mk 2 ([97, 99, 109, 101] : Ap) 0 0 (Bf.mk false (An.mk 0 0) (Al.mk 0 0)) ([] : Ap) 0 0) 1)).1) 2 (Ak.mk 2 ([97, 99, 109, 101] : Ap) 0 0 (Bf.mk false (An.mk 0 0) (Al.mk 0 0)) ([] : Ap) 0 0) 2)).1) 1 (Ak.mk 5 ([97, 99, 109, 101] : Ap) 0 0 (Bf.mk false (An.mk 0 0) (Al.mk 0 0)) ([] : Ap) 0 0) 3)).1) ([97, 99, 109, 101] : Ap)).1.version) = 2 then (Ga (((Aq (((Aq (((Aq (((Aq ((Cu 2).1) 3 (Ak.mk 1 ([97, 99, 109, 101] : Ap) 0 0 (Bf.mk false (An.mk 0 0) (Al.mk 0 0)) ([107] : Ap) 100 0) 0)).1) 2 (Ak.mk 2 ([97, 99, 109, 101] : Ap) 0 0 (Bf.mk false (An.mk 0 0) (Al.mk 0 0)) ([] : Ap) 0 0) 1)).1) 2 (Ak.mk 2 ([97, 99, 109, 101] : Ap) 0 0 (Bf.mk false (An.mk 0 0) (Al.mk 0 0)) ([] : Ap) 0 0) 2)).1) 1 (Ak.mk 5 ([97, 99, 109, 101] : Ap) 0 0 (Bf.mk false (An.mk 0 0) (Al.mk 0 0)) ([] : Ap) 0 0) 3)).1)) else false) else false) else false) else false) else false) else false))
end Go.Proofs.YtopjaeoklkpcpaaGreatDoor.Jd

namespace Go.Proofs.YtopjaeoklkpcpaaGreatDoor.Jd
open Go.Proofs.Tryz
open Go.Proofs
open Go.RowKit (Below)
set_option maxRecDepth 100000
set_option maxHeartbeats 8000000
set_option linter.unusedVariables false
set_option linter.unusedSimpArgs false
def Fr (r : Ac) (now : Int) : Nat → Nat → List Aa → Int → Nat × (List Aa) × Int
  | 0, x_1, x_2, x_3 => (x_1, x_2, x_3)
  | n_4 + 1, x_1, x_2, x_3 => (if ((x_1 : Nat) : Int) < ((r.l.length : Nat) : Int) then (if ((r.l.getD x_1 default).state) ≠ 3 then (Fr r now n_4 (x_1 + 1) x_2 x_3) else (if now < ((r.l.getD x_1 default).deadline) then (Fr r now n_4 (x_1 + 1) x_2 x_3) else (if 1000000000000 ≤ x_3 then (Fr r now n_4 (x_1 + 1) x_2 x_3) else (if ¬ (((r.l.getD x_1 default).state) ≠ 2) then (Fr r now n_4 (x_1 + 1) x_2 x_3) else (Fr r now n_4 (x_1 + 1) (Fp x_2 (Aa.mk ((r.l.getD x_1 default).handle) ((r.l.getD x_1 default).name) 2 (((r.l.getD x_1 default).version) + 1) ((r.l.getD x_1 default).rules) ((r.l.getD x_1 default).creds) 0)) (x_3 + 1)))))) else (x_1, x_2, x_3))
def Gp (r : Ac) (now : Int) : Ac := (if (!(Ga r)) = true then r else (gG (Fr r now (r.l.length + 1) 0 r.l r.seq) (fun x_1 x_2 x_3 => (Ac.mk r.slots x_2 x_3))))
end Go.Proofs.YtopjaeoklkpcpaaGreatDoor.Jd

namespace Go.Proofs.YtopjaeoklkpcpaaGreatDoor.Jd
open Go.Proofs.Tryz
open Go.Proofs
set_option linter.unusedVariables false
set_option linter.unusedSimpArgs false
def Je (B : Aj) {α : Type} (enc : α → List Value) (k : Nat) (a : Option Addr) (c : Nat) (xs : List α) : Prop := ∀ w : World, (∀ p ∈ B, w.heap[p.1]? = some p.2) → Sl w enc k a xs ∧ xs.length ≤ c
theorem Je.slb {B : Aj} {α : Type} {enc : α → List Value} {k : Nat} {a : Option Addr} {c : Nat} {xs : List α} (h : Je B enc k a c xs) : Dw B enc k a xs := fun w hw => (h w hw).1
theorem Je.nil {B : Aj} {α : Type} {enc : α → List Value} {k : Nat} {a : Option Addr} {c : Nat} : Je B enc k a c ([] : List α) := fun _ _ => ⟨Sl.nil, Nat.zero_le _⟩
def sJ {α1 α2 α3 α4 α5 α6 α7 α8 α9 α10 α11 α12 α13 α14 γ : Type} (v : (α1 × α2 × α3 × α4 × α5 × α6 × α7 × α8 × α9 × α10 × α11 × α12 × α13 × α14)) (g : α1 → α2 → α3 → α4 → α5 → α6 → α7 → α8 → α9 → α10 → α11 → α12 → α13 → α14 → γ) : γ := g v.1 v.2.1 v.2.2.1 v.2.2.2.1 v.2.2.2.2.1 v.2.2.2.2.2.1 v.2.2.2.2.2.2.1 v.2.2.2.2.2.2.2.1 v.2.2.2.2.2.2.2.2.1 v.2.2.2.2.2.2.2.2.2.1 v.2.2.2.2.2.2.2.2.2.2.1 v.2.2.2.2.2.2.2.2.2.2.2.1 v.2.2.2.2.2.2.2.2.2.2.2.2.1 v.2.2.2.2.2.2.2.2.2.2.2.2.2
def Is.xr14 {α1 α2 α3 α4 α5 α6 α7 α8 α9 α10 α11 α12 α13 α14 γ : Type} {A : γ} {x : (α1 × α2 × α3 × α4 × α5 × α6 × α7 × α8 × α9 × α10 × α11 × α12 × α13 × α14)} {g : α1 → α2 → α3 → α4 → α5 → α6 → α7 → α8 → α9 → α10 → α11 → α12 → α13 → α14 → γ} (_ : Is A (sJ x g)) : (α1 × α2 × α3 × α4 × α5 × α6 × α7 × α8 × α9 × α10 × α11 × α12 × α13 × α14) := x
theorem Is.rn14 {α1 α2 α3 α4 α5 α6 α7 α8 α9 α10 α11 α12 α13 α14 γ : Type} {A : γ} {x : (α1 × α2 × α3 × α4 × α5 × α6 × α7 × α8 × α9 × α10 × α11 × α12 × α13 × α14)} {g : α1 → α2 → α3 → α4 → α5 → α6 → α7 → α8 → α9 → α10 → α11 → α12 → α13 → α14 → γ} {u1 : α1} {u2 : α2} {u3 : α3} {u4 : α4} {u5 : α5} {u6 : α6} {u7 : α7} {u8 : α8} {u9 : α9} {u10 : α10} {u11 : α11} {u12 : α12} {u13 : α13} {u14 : α14} (h : Is A (sJ x g)) (hx : Is x (u1, u2, u3, u4, u5, u6, u7, u8, u9, u10, u11, u12, u13, u14)) : Is A (g u1 u2 u3 u4 u5 u6 u7 u8 u9 u10 u11 u12 u13 u14) := by cases hx; exact h
section
variable {P : Program} {rd : Option Nat} {b0 : World} {Mk : List Nat} {N : Nat} {D : List Deferred} {ops : Array Oper} {L V : Aj} {E : Ew} {T : Act → World → Prop} {Q : Exit → Act → World → Prop}
def nJ {σ1 σ2 σ3 σ4 σ5 σ6 σ7 σ8 σ9 σ10 σ11 σ12 σ13 σ14 σ15 : Type} (b0 : World) (Mk : List Nat) (N : Nat) (D : List Deferred) (Ls : σ1 → σ2 → σ3 → σ4 → σ5 → σ6 → σ7 → σ8 → σ9 → σ10 → σ11 → σ12 → σ13 → σ14 → σ15 → Aj) (Es : σ1 → σ2 → σ3 → σ4 → σ5 → σ6 → σ7 → σ8 → σ9 → σ10 → σ11 → σ12 → σ13 → σ14 → σ15 → Ew) (I : σ1 → σ2 → σ3 → σ4 → σ5 → σ6 → σ7 → σ8 → σ9 → σ10 → σ11 → σ12 → σ13 → σ14 → σ15 → Prop) : Act → World → Prop := fun a w => ∃ s1 : σ1, ∃ s2 : σ2, ∃ s3 : σ3, ∃ s4 : σ4, ∃ s5 : σ5, ∃ s6 : σ6, ∃ s7 : σ7, ∃ s8 : σ8, ∃ s9 : σ9, ∃ s10 : σ10, ∃ s11 : σ11, ∃ s12 : σ12, ∃ s13 : σ13, ∃ s14 : σ14, ∃ s15 : σ15, I s1 s2 s3 s4 s5 s6 s7 s8 s9 s10 s11 s12 s13 s14 s15 ∧ Dg N D (Es s1 s2 s3 s4 s5 s6 s7 s8 s9 s10 s11 s12 s13 s14 s15) a ∧ SH b0 Mk (Ls s1 s2 s3 s4 s5 s6 s7 s8 s9 s10 s11 s12 s13 s14 s15) w
theorem F8 {σ1 σ2 σ3 σ4 σ5 σ6 σ7 σ8 σ9 σ10 σ11 σ12 σ13 σ14 σ15 : Type} {c : Code} (Ls : σ1 → σ2 → σ3 → σ4 → σ5 → σ6 → σ7 → σ8 → σ9 → σ10 → σ11 → σ12 → σ13 → σ14 → σ15 → Aj) (Es : σ1 → σ2 → σ3 → σ4 → σ5 → σ6 → σ7 → σ8 → σ9 → σ10 → σ11 → σ12 → σ13 → σ14 → σ15 → Ew) (I : σ1 → σ2 → σ3 → σ4 → σ5 → σ6 → σ7 → σ8 → σ9 → σ10 → σ11 → σ12 → σ13 → σ14 → σ15 → Prop) (h : J P rd b0 Mk N D L E c (Kj (nJ b0 Mk N D Ls Es I) Q)) (k : ∀ (s1 : σ1) (s2 : σ2) (s3 : σ3) (s4 : σ4) (s5 : σ5) (s6 : σ6) (s7 : σ7) (s8 : σ8) (s9 : σ9) (s10 : σ10) (s11 : σ11) (s12 : σ12) (s13 : σ13) (s14 : σ14) (s15 : σ15), I s1 s2 s3 s4 s5 s6 s7 s8 s9 s10 s11 s12 s13 s14 s15 → JX b0 Mk N D (Ls s1 s2 s3 s4 s5 s6 s7 s8 s9 s10 s11 s12 s13 s14 s15) (Es s1 s2 s3 s4 s5 s6 s7 s8 s9 s10 s11 s12 s13 s14 s15) Q .normal) : J P rd b0 Mk N D L E c Q :=
  Xu h fun a w ⟨s1, s2, s3, s4, s5, s6, s7, s8, s9, s10, s11, s12, s13, s14, s15, hI, ha, hw⟩ => k s1 s2 s3 s4 s5 s6 s7 s8 s9 s10 s11 s12 s13 s14 s15 hI a w ha hw
theorem iM {σ1 σ2 σ3 σ4 σ5 σ6 σ7 σ8 σ9 σ10 σ11 σ12 σ13 σ14 σ15 : Type} {Ls : σ1 → σ2 → σ3 → σ4 → σ5 → σ6 → σ7 → σ8 → σ9 → σ10 → σ11 → σ12 → σ13 → σ14 → σ15 → Aj} {Es : σ1 → σ2 → σ3 → σ4 → σ5 → σ6 → σ7 → σ8 → σ9 → σ10 → σ11 → σ12 → σ13 → σ14 → σ15 → Ew} {I : σ1 → σ2 → σ3 → σ4 → σ5 → σ6 → σ7 → σ8 → σ9 → σ10 → σ11 → σ12 → σ13 → σ14 → σ15 → Prop} (s1 : σ1) (s2 : σ2) (s3 : σ3) (s4 : σ4) (s5 : σ5) (s6 : σ6) (s7 : σ7) (s8 : σ8) (s9 : σ9) (s10 : σ10) (s11 : σ11) (s12 : σ12) (s13 : σ13) (s14 : σ14) (s15 : σ15) (hI : I s1 s2 s3 s4 s5 s6 s7 s8 s9 s10 s11 s12 s13 s14 s15) (hE : Jw E (Es s1 s2 s3 s4 s5 s6 s7 s8 s9 s10 s11 s12 s13 s14 s15)) (hL : List.Perm L (Ls s1 s2 s3 s4 s5 s6 s7 s8 s9 s10 s11 s12 s13 s14 s15)) : JX b0 Mk N D L E (Kj (nJ b0 Mk N D Ls Es I) Q) .normal :=
  fun _ _ ha hw => ⟨s1, s2, s3, s4, s5, s6, s7, s8, s9, s10, s11, s12, s13, s14, s15, hI, ha.sub hE, hw.perm hL⟩
def nK {σ1 σ2 σ3 σ4 σ5 σ6 σ7 σ8 σ9 σ10 σ11 σ12 σ13 σ14 σ15 σ16 σ17 σ18 σ19 σ20 σ21 σ22 σ23 σ24 σ25 σ26 σ27 σ28 σ29 σ30 : Type} (b0 : World) (Mk : List Nat) (N : Nat) (D : List Deferred) (Ls : σ1 → σ2 → σ3 → σ4 → σ5 → σ6 → σ7 → σ8 → σ9 → σ10 → σ11 → σ12 → σ13 → σ14 → σ15 → σ16 → σ17 → σ18 → σ19 → σ20 → σ21 → σ22 → σ23 → σ24 → σ25 → σ26 → σ27 → σ28 → σ29 → σ30 → Aj) (Es : σ1 → σ2 → σ3 → σ4 → σ5 → σ6 → σ7 → σ8 → σ9 → σ10 → σ11 → σ12 → σ13 → σ14 → σ15 → σ16 → σ17 → σ18 → σ19 → σ20 → σ21 → σ22 → σ23 → σ24 → σ25 → σ26 → σ27 → σ28 → σ29 → σ30 → Ew) (I : σ1 → σ2 → σ3 → σ4 → σ5 → σ6 → σ7 → σ8 → σ9 → σ10 → σ11 → σ12 → σ13 → σ14 → σ15 → σ16 → σ17 → σ18 → σ19 → σ20 → σ21 → σ22 → σ23 → σ24 → σ25 → σ26 → σ27 → σ28 → σ29 → σ30 → Prop) : Act → World → Prop := fun a w => ∃ s1 : σ1, ∃ s2 : σ2, ∃ s3 : σ3, ∃ s4 : σ4, ∃ s5 : σ5, ∃ s6 : σ6, ∃ s7 : σ7, ∃ s8 : σ8, ∃ s9 : σ9, ∃ s10 : σ10, ∃ s11 : σ11, ∃ s12 : σ12, ∃ s13 : σ13, ∃ s14 : σ14, ∃ s15 : σ15, ∃ s16 : σ16, ∃ s17 : σ17, ∃ s18 : σ18, ∃ s19 : σ19, ∃ s20 : σ20, ∃ s21 : σ21, ∃ s22 : σ22, ∃ s23 : σ23, ∃ s24 : σ24, ∃ s25 : σ25, ∃ s26 : σ26, ∃ s27 : σ27, ∃ s28 : σ28, ∃ s29 : σ29, ∃ s30 : σ30, I s1 s2 s3 s4 s5 s6 s7 s8 s9 s10 s11 s12 s13 s14 s15 s16 s17 s18 s19 s20 s21 s22 s23 s24 s25 s26 s27 s28 s29 s30 ∧ Dg N D (Es s1 s2 s3 s4 s5 s6 s7 s8 s9 s10 s11 s12 s13 s14 s15 s16 s17 s18 s19 s20 s21 s22 s23 s24 s25 s26 s27 s28 s29 s30) a ∧ SH b0 Mk (Ls s1 s2 s3 s4 s5 s6 s7 s8 s9 s10 s11 s12 s13 s14 s15 s16 s17 s18 s19 s20 s21 s22 s23 s24 s25 s26 s27 s28 s29 s30) w
theorem F9 {σ1 σ2 σ3 σ4 σ5 σ6 σ7 σ8 σ9 σ10 σ11 σ12 σ13 σ14 σ15 σ16 σ17 σ18 σ19 σ20 σ21 σ22 σ23 σ24 σ25 σ26 σ27 σ28 σ29 σ30 : Type} {c : Code} (Ls : σ1 → σ2 → σ3 → σ4 → σ5 → σ6 → σ7 → σ8 → σ9 → σ10 → σ11 → σ12 → σ13 → σ14 → σ15 → σ16 → σ17 → σ18 → σ19 → σ20 → σ21 → σ22 → σ23 → σ24 → σ25 → σ26 → σ27 → σ28 → σ29 → σ30 → Aj) (Es : σ1 → σ2 → σ3 → σ4 → σ5 → σ6 → σ7 → σ8 → σ9 → σ10 → σ11 → σ12 → σ13 → σ14 → σ15 → σ16 → σ17 → σ18 → σ19 → σ20 → σ21 → σ22 → σ23 → σ24 → σ25 → σ26 → σ27 → σ28 → σ29 → σ30 → Ew) (I : σ1 → σ2 → σ3 → σ4 → σ5 → σ6 → σ7 → σ8 → σ9 → σ10 → σ11 → σ12 → σ13 → σ14 → σ15 → σ16 → σ17 → σ18 → σ19 → σ20 → σ21 → σ22 → σ23 → σ24 → σ25 → σ26 → σ27 → σ28 → σ29 → σ30 → Prop) (h : J P rd b0 Mk N D L E c (Kj (nK b0 Mk N D Ls Es I) Q)) (k : ∀ (s1 : σ1) (s2 : σ2) (s3 : σ3) (s4 : σ4) (s5 : σ5) (s6 : σ6) (s7 : σ7) (s8 : σ8) (s9 : σ9) (s10 : σ10) (s11 : σ11) (s12 : σ12) (s13 : σ13) (s14 : σ14) (s15 : σ15) (s16 : σ16) (s17 : σ17) (s18 : σ18) (s19 : σ19) (s20 : σ20) (s21 : σ21) (s22 : σ22) (s23 : σ23) (s24 : σ24) (s25 : σ25) (s26 : σ26) (s27 : σ27) (s28 : σ28) (s29 : σ29) (s30 : σ30), I s1 s2 s3 s4 s5 s6 s7 s8 s9 s10 s11 s12 s13 s14 s15 s16 s17 s18 s19 s20 s21 s22 s23 s24 s25 s26 s27 s28 s29 s30 → JX b0 Mk N D (Ls s1 s2 s3 s4 s5 s6 s7 s8 s9 s10 s11 s12 s13 s14 s15 s16 s17 s18 s19 s20 s21 s22 s23 s24 s25 s26 s27 s28 s29 s30) (Es s1 s2 s3 s4 s5 s6 s7 s8 s9 s10 s11 s12 s13 s14 s15 s16 s17 s18 s19 s20 s21 s22 s23 s24 s25 s26 s27 s28 s29 s30) Q .normal) : J P rd b0 Mk N D L E c Q :=
  Xu h fun a w ⟨s1, s2, s3, s4, s5, s6, s7, s8, s9, s10, s11, s12, s13, s14, s15, s16, s17, s18, s19, s20, s21, s22, s23, s24, s25, s26, s27, s28, s29, s30, hI, ha, hw⟩ => k s1 s2 s3 s4 s5 s6 s7 s8 s9 s10 s11 s12 s13 s14 s15 s16 s17 s18 s19 s20 s21 s22 s23 s24 s25 s26 s27 s28 s29 s30 hI a w ha hw
theorem Fx {σ1 σ2 σ3 σ4 σ5 σ6 σ7 σ8 σ9 σ10 σ11 σ12 σ13 σ14 σ15 σ16 σ17 σ18 σ19 σ20 σ21 σ22 σ23 σ24 σ25 σ26 σ27 σ28 σ29 σ30 : Type} {Ls : σ1 → σ2 → σ3 → σ4 → σ5 → σ6 → σ7 → σ8 → σ9 → σ10 → σ11 → σ12 → σ13 → σ14 → σ15 → σ16 → σ17 → σ18 → σ19 → σ20 → σ21 → σ22 → σ23 → σ24 → σ25 → σ26 → σ27 → σ28 → σ29 → σ30 → Aj} {Es : σ1 → σ2 → σ3 → σ4 → σ5 → σ6 → σ7 → σ8 → σ9 → σ10 → σ11 → σ12 → σ13 → σ14 → σ15 → σ16 → σ17 → σ18 → σ19 → σ20 → σ21 → σ22 → σ23 → σ24 → σ25 → σ26 → σ27 → σ28 → σ29 → σ30 → Ew} {I : σ1 → σ2 → σ3 → σ4 → σ5 → σ6 → σ7 → σ8 → σ9 → σ10 → σ11 → σ12 → σ13 → σ14 → σ15 → σ16 → σ17 → σ18 → σ19 → σ20 → σ21 → σ22 → σ23 → σ24 → σ25 → σ26 → σ27 → σ28 → σ29 → σ30 → Prop} (s1 : σ1) (s2 : σ2) (s3 : σ3) (s4 : σ4) (s5 : σ5) (s6 : σ6) (s7 : σ7) (s8 : σ8) (s9 : σ9) (s10 : σ10) (s11 : σ11) (s12 : σ12) (s13 : σ13) (s14 : σ14) (s15 : σ15) (s16 : σ16) (s17 : σ17) (s18 : σ18) (s19 : σ19) (s20 : σ20) (s21 : σ21) (s22 : σ22) (s23 : σ23) (s24 : σ24) (s25 : σ25) (s26 : σ26) (s27 : σ27) (s28 : σ28) (s29 : σ29) (s30 : σ30) (hI : I s1 s2 s3 s4 s5 s6 s7 s8 s9 s10 s11 s12 s13 s14 s15 s16 s17 s18 s19 s20 s21 s22 s23 s24 s25 s26 s27 s28 s29 s30) (hE : Jw E (Es s1 s2 s3 s4 s5 s6 s7 s8 s9 s10 s11 s12 s13 s14 s15 s16 s17 s18 s19 s20 s21 s22 s23 s24 s25 s26 s27 s28 s29 s30)) (hL : List.Perm L (Ls s1 s2 s3 s4 s5 s6 s7 s8 s9 s10 s11 s12 s13 s14 s15 s16 s17 s18 s19 s20 s21 s22 s23 s24 s25 s26 s27 s28 s29 s30)) : JX b0 Mk N D L E (Kj (nK b0 Mk N D Ls Es I) Q) .normal :=
  fun _ _ ha hw => ⟨s1, s2, s3, s4, s5, s6, s7, s8, s9, s10, s11, s12, s13, s14, s15, s16, s17, s18, s19, s20, s21, s22, s23, s24, s25, s26, s27, s28, s29, s30, hI, ha.sub hE, hw.perm hL⟩
end
end Go.Proofs.YtopjaeoklkpcpaaGreatDoor.Jd

namespace Go.Proofs.YtopjaeoklkpcpaaGreatDoor.Jd
open Go.Proofs.Tryz
open Go.Proofs
open Go.RowKit (Below)
set_option maxRecDepth 100000
set_option maxHeartbeats 8000000
set_option linter.unusedVariables false
set_option linter.unusedSimpArgs false
def Co (r : Ac) (q : Ac) (n_ : Int) (s : Ap) (is_1 : Bool) (x_2 : Int) (x_3 : Int) (x_4 : Ap) (x_5 : Int) (x_6 : Int) (x_7 : List Bf) (x_8 : List Bw) (x_9 : Int) : Nat → Nat → List Aa → Int → Nat × (List Aa) × Int
  | 0, i_13, x_14, x_15 => (i_13, x_14, x_15)
  | n_16 + 1, i_13, x_14, x_15 => (if ((i_13 : Nat) : Int) < ((x_14.length : Nat) : Int) then (if ((x_14.getD i_13 default).state) = 3 then (if ((x_14.getD i_13 default).deadline) ≤ n_ then (if x_15 < 1000000000000 then (Co r q n_ s is_1 x_2 x_3 x_4 x_5 x_6 x_7 x_8 x_9 n_16 (i_13 + 1) (((x_14.take i_13) ++ ([(Aa.mk ((x_14.getD i_13 default).handle) ((x_14.getD i_13 default).name) 2 (((x_14.getD i_13 default).version) + 1) ((x_14.getD i_13 default).rules) ((x_14.getD i_13 default).creds) 0)] : List Aa)) ++ (x_14.drop (i_13 + 1))) (x_15 + 1)) else (Co r q n_ s is_1 x_2 x_3 x_4 x_5 x_6 x_7 x_8 x_9 n_16 (i_13 + 1) x_14 x_15)) else (Co r q n_ s is_1 x_2 x_3 x_4 x_5 x_6 x_7 x_8 x_9 n_16 (i_13 + 1) x_14 x_15)) else (Co r q n_ s is_1 x_2 x_3 x_4 x_5 x_6 x_7 x_8 x_9 n_16 (i_13 + 1) x_14 x_15)) else (i_13, x_14, x_15))
def Hw (r : Ac) (q : Ac) (n_ : Int) (s : Ap) : Bool := (zN (if (Cw (Bj r) (s.take ((if 100 < ((s.length : Nat) : Int) then 100 else ((s.length : Nat) : Int)).toNat))) < 0 then (false, 0, 0, ([] : Ap), 0, 0, [], [], 0) else (true, ((((Bj r).l).getD ((Cw (Bj r) (s.take ((if 100 < ((s.length : Nat) : Int) then 100 else ((s.length : Nat) : Int)).toNat))).toNat) default).handle.slot), ((((Bj r).l).getD ((Cw (Bj r) (s.take ((if 100 < ((s.length : Nat) : Int) then 100 else ((s.length : Nat) : Int)).toNat))).toNat) default).handle.gen), ((((Bj r).l).getD ((Cw (Bj r) (s.take ((if 100 < ((s.length : Nat) : Int) then 100 else ((s.length : Nat) : Int)).toNat))).toNat) default).name), ((((Bj r).l).getD ((Cw (Bj r) (s.take ((if 100 < ((s.length : Nat) : Int) then 100 else ((s.length : Nat) : Int)).toNat))).toNat) default).state), ((((Bj r).l).getD ((Cw (Bj r) (s.take ((if 100 < ((s.length : Nat) : Int) then 100 else ((s.length : Nat) : Int)).toNat))).toNat) default).version), ((((Bj r).l).getD ((Cw (Bj r) (s.take ((if 100 < ((s.length : Nat) : Int) then 100 else ((s.length : Nat) : Int)).toNat))).toNat) default).rules), ((((Bj r).l).getD ((Cw (Bj r) (s.take ((if 100 < ((s.length : Nat) : Int) then 100 else ((s.length : Nat) : Int)).toNat))).toNat) default).creds), ((((Bj r).l).getD ((Cw (Bj r) (s.take ((if 100 < ((s.length : Nat) : Int) then 100 else ((s.length : Nat) : Int)).toNat))).toNat) default).deadline))) (fun is_1 x_2 x_3 x_4 x_5 x_6 x_7 x_8 x_9 => (if eT = true then (if (Ks ((Cu n_).1) ((Eu n_).1)) = true then (if ((Cu n_).2) = ((Eu n_).2) then (if ((Ga (Bj r)) == (Hl (Bj r))) = true then (if ((Yo (Bj r) (Bj q)) == (Ks (Bj r) (Bj q))) = true then (if (Yo (Bj r) (Bj r)) = true then (if (Ra ((Ee (Bj r) (s.take ((if 100 < ((s.length : Nat) : Int) then 100 else ((s.length : Nat) : Int)).toNat))).1) (Aa.mk (Ar.mk x_2 x_3) x_4 x_5 x_6 x_7 x_8 x_9)) = true then (if (((Ee (Bj r) (s.take ((if 100 < ((s.length : Nat) : Int) then 100 else ((s.length : Nat) : Int)).toNat))).2) == is_1) = true then (if (Zq (Qy (Bj r)) (Mc (Bj r))) = true then (if (!(Hl (Bj r))) = true then (Ks (Gp (Bj r) n_) (Bj r)) else (gG (Co r q n_ s is_1 x_2 x_3 x_4 x_5 x_6 x_7 x_8 x_9 (((Bj r).l).length + 1) 0 ((Bj r).l) ((Bj r).seq)) (fun i_13 x_14 x_15 => (Ks (Gp (Bj r) n_) (Ac.mk ((Bj r).slots) x_14 x_15))))) else false) else false) else false) else false) else false) else false) else false) else false) else false)))
end Go.Proofs.YtopjaeoklkpcpaaGreatDoor.Jd

