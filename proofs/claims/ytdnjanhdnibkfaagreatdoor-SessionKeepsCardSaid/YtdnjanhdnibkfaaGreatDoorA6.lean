/- Part of the proofs of this seat: walks and plain facts. No condition. -/
import Derived.Test.YtdnjanhdnibkfaaGreatDoorA0
import Derived.WalkKit
import Derived.ProofKit
import Derived.OpenShut
import Derived.Carry
import Derived.Test.YtdnjanhdnibkfaaGreatDoorProg
import Derived.Test.YtdnjanhdnibkfaaGreatDoorRows
import Derived.ChangeMaps5
import Derived.Test.YtdnjanhdnibkfaaGreatDoorA5
import Derived.Test.YtdnjanhdnibkfaaGreatDoorA1
import Derived.Test.YtdnjanhdnibkfaaGreatDoorA2
import Derived.Test.YtdnjanhdnibkfaaGreatDoorA3
import Derived.Test.YtdnjanhdnibkfaaGreatDoorA4
namespace Go.Proofs.YtdnjanhdnibkfaaGreatDoor.Jd
open Go.Proofs.Tryz
open Go.ChangeShapes Go.WideShapes Go.ChangeAt Go.RowKit
set_option linter.unusedVariables false
set_option linter.unusedSimpArgs false
section
variable {H : Type} {encH : TypeId × Value → H} {P : Program} {W W' : World}

theorem yE {e : TypeId} (he : P.underlying e = some .bool) : Q4 encH P W e (fun x : Bool => [Value.bool x]) := fun n cs y h => by
  obtain ⟨m, rfl, _⟩ := DataW.trod_bool he h
  exact ⟨m, rfl⟩

end
end Go.Proofs.YtdnjanhdnibkfaaGreatDoor.Jd

namespace Go.Proofs.YtdnjanhdnibkfaaGreatDoor.Jd
open Go.Proofs.Tryz
open Go.ChangeShapes Go.WideShapes Go.ChangeAt Go.RowKit
set_option linter.unusedVariables false
set_option linter.unusedSimpArgs false
section
variable {H : Type} {encH : TypeId × Value → H} {P : Program} {W : World}
def BB9 {α β : Type} (encH : TypeId × Value → H) (P : Program) (W : World) (e : TypeId) (enc : α × β → List Value) (D : World → α → β → Prop) : Prop :=
  ∀ (n : Nat) (cs : List Value) (y : DataW H × List MemPlace), DataW.trod encH P W 0 (fun _ => true) true n e cs = some y → ∃ x t, cs = enc (x, t) ∧ D W x t
theorem Y7 {α β : Type} [Inhabited α] [Inhabited β] {enc : α × β → List Value} {D : World → α → β → Prop} {k : Nat} {t e : TypeId} {n : Nat} {cs : List Value} {y : DataW H × List MemPlace} (ht : P.underlying t = some (.slice e)) (hk : P.cellsOf e = k) (hE : Ed enc k) (ho : BB9 encH P W e enc D)
    (h : DataW.trod encH P W 0 (fun _ => true) true n t cs = some y) : ∃ a c, ∃ xs : List α, ∃ ts : List β, cs = [.slice a xs.length c] ∧ xs.length ≤ c ∧ Yz W enc k D a xs ts := by
  obtain ⟨a, c, zs, h1, h2, h3⟩ := aX (enc := fun z : {z : α × β // D W z.1 z.2} => enc z.1) ht hk ⟨hE.pos, fun z => hE.len z.1, fun z => hE.one z.1⟩ (fun n cs y h => by
    obtain ⟨x, t, e, hd⟩ := ho n cs y h
    exact ⟨⟨(x, t), hd⟩, e⟩) h
  have hz : List.zip (zs.map fun z => z.1.1) (zs.map fun z => z.1.2) = zs.map fun z => z.1 := List.zip_map'
  refine ⟨a, c, zs.map (fun z => z.1.1), zs.map (fun z => z.1.2), by simpa using h1, by simpa using h2, by simp, ?_, fun i hi => ?_⟩
  · rw [hz]
    intro i x hx
    rw [List.getElem?_map, Option.map_eq_some_iff] at hx
    obtain ⟨z, hz1, rfl⟩ := hx
    exact h3 i z hz1
  · have hi' : i < zs.length := by simpa using hi
    simpa [List.getD, hi'] using (zs[i]).2
end
end Go.Proofs.YtdnjanhdnibkfaaGreatDoor.Jd

namespace Go.Proofs.YtdnjanhdnibkfaaGreatDoor.Jd
open Go.Proofs.Tryz
open Go.Proofs
open Go.RowKit (Below)
set_option maxRecDepth 100000
set_option maxHeartbeats 8000000
set_option linter.unusedVariables false
set_option linter.unusedSimpArgs false
def Kn (l : List Ie) : List Ie := (l.take (min l.length 18))
end Go.Proofs.YtdnjanhdnibkfaaGreatDoor.Jd

namespace Go.Proofs.YtdnjanhdnibkfaaGreatDoor.Jd
open Go.Proofs.Tryz
open Go.Proofs
open Go.RowKit (Below)
set_option maxRecDepth 100000
set_option maxHeartbeats 8000000
set_option linter.unusedVariables false
set_option linter.unusedSimpArgs false
def Tk (l : List Eb) : Nat → List Eb → Nat → (List Eb) × Nat
  | 0, out_1, i_2 => (out_1, i_2)
  | n_3 + 1, out_1, i_2 => (if ((i_2 : Nat) : Int) < ((l.length : Nat) : Int) then (if ((i_2 : Nat) : Int) < 6 then (Tk l n_3 (out_1 ++ ([(Eb.mk ((l.getD i_2 default).id) (((l.getD i_2 default).key).take (min ((l.getD i_2 default).key).length 65)) ((l.getD i_2 default).frm) ((l.getD i_2 default).to))] : List Eb)) (i_2 + 1)) else (out_1, i_2)) else (out_1, i_2))
def Wf (l : List Eb) : List Eb := (Iu (Tk l (6 + 1) [] 0) (fun out_1 i_2 => out_1))
end Go.Proofs.YtdnjanhdnibkfaaGreatDoor.Jd

namespace Go.Proofs.YtdnjanhdnibkfaaGreatDoor.Jd
open Go.Proofs.Tryz
open Go.Proofs
open Go.RowKit (Below)
set_option maxRecDepth 100000
set_option maxHeartbeats 8000000
set_option linter.unusedVariables false
set_option linter.unusedSimpArgs false
def Wz (r : Bk) : Nat → Nat → List Ah → Nat × (List Ah)
  | 0, i_2, x_3 => (i_2, x_3)
  | n_4 + 1, i_2, x_3 => (if ((i_2 : Nat) : Int) < ((r.l.length : Nat) : Int) then (if ((i_2 : Nat) : Int) < 8 then (Wz r n_4 (i_2 + 1) (x_3 ++ ([(Ah.mk ((r.l.getD i_2 default).handle) (((r.l.getD i_2 default).name).take (min ((r.l.getD i_2 default).name).length 41)) ((r.l.getD i_2 default).state) ((r.l.getD i_2 default).version) (Kn ((r.l.getD i_2 default).rules)) (Wf ((r.l.getD i_2 default).creds)) ((r.l.getD i_2 default).deadline))] : List Ah))) else (i_2, x_3)) else (i_2, x_3))
def Br (r : Bk) : Bk := (E3 () (Iu (Wz r (8 + 1) 0 []) (fun i_2 x_3 => (Bk.mk (Slots.mk (r.slots.gens.take (min r.slots.gens.length 66)) (r.slots.used.take (min r.slots.used.length 66)) (r.slots.free.take (min r.slots.free.length 66))) x_3 r.seq))))
end Go.Proofs.YtdnjanhdnibkfaaGreatDoor.Jd

namespace Go.Proofs.YtdnjanhdnibkfaaGreatDoor.Jd
open Go.Proofs.Tryz
open Go.Proofs
open Go.RowKit (Below)
set_option maxRecDepth 100000
set_option maxHeartbeats 8000000
set_option linter.unusedVariables false
set_option linter.unusedSimpArgs false

theorem Y8 (w : World) {l_a : Option Addr} {l_c : Nat} {l : List Ie} (h_l : Sl w Lb 5 l_a l) (k_l : l.length ≤ l_c) : Calls Tryz.prog 35 (List.toArray [(vs l_a l.length l_c)]) w fun e w2 => ∃ a1 : Option Addr, ∃ c1 : Nat, ∃ B1 : Av, e = .returned (vs a1 ((Kn l).length) c1) ∧ Ej w w2 B1 ∧ Bt Lb 5 84 a1 c1 B1 (Kn l) ∧ (Kn l).length ≤ 18 := by
 have hF := Is.refl (Kn l)
 refine enter func35 ntmps35 (h := ?_)
 refine Xv ?_
 refine Hp ?_
 refine Af (Fg runUnderlying47) (k := ?_)
 refine Af Vk (k := ?_)
 have hl1 : (l.take (min l.length 18)).length = (min l.length 18) := by rw [List.length_take]; first | (split <;> omega) | omega
 refine Af (Hb (l.take (min l.length 18)).length runUnderlying47 (fun w => ⟨_, sizeOf84 w⟩) (hm := z3) (hi := by first | (split <;> omega) | omega)) (k := ?_)
 refine Bb (l.take (min l.length 18)) (List.nil_append _) AS1 underlying47 Hk Bt.nil (List.Perm.refl _) ((Cl.of_base h_l).take (min l.length 18)) ⟨by omega, by omega⟩ (n := 0) (m := (l.take (min l.length 18)).length) (k := fun ax1 cx1 Bx1 hox1 => ?_)
 refine Z4 ?_
 refine Aa results35 z0 (fun w1 hw1 => ?_)
 exact ⟨ax1, cx1, Bx1, (rq hF), (Ax (L := Bx1) (hw1.perm (List.Perm.refl _)) rfl.symm), (by unfold Kn; exact hox1), (by unfold Kn; rw [List.length_take]; omega)⟩

theorem AO9 (w : World) {l_a : Option Addr} {l_c : Nat} {l : List Eb} (h_l : Sl w Ip 4 l_a l) : Calls Tryz.prog 36 (List.toArray [(vs l_a l.length l_c)]) w fun e w2 => ∃ a1 : Option Addr, ∃ c1 : Nat, ∃ B1 : Av, e = .returned (vs a1 ((Wf l).length) c1) ∧ Ej w w2 B1 ∧ Bt Ip 4 112 a1 c1 B1 (Wf l) ∧ (Wf l).length ≤ 6 := by
 have hF := Is.refl (Wf l)
 refine enter func36 ntmps36 (h := ?_)
 refine Nk ?_
 refine Ik ?_
 refine iQ ?_
 refine Ml (σ1 := Nat) (σ2 := List Eb) (σ3 := Option Addr) (σ4 := Nat) (σ5 := Av) (σ6 := Nat) (fun n_3 out_1 out_1a out_1c out_1B i_2 => (out_1B ++ [])) (fun n_3 out_1 out_1a out_1c out_1B i_2 => [(0, (vs l_a l.length l_c)), (2, (vs none 0 0)), (3, (vs out_1a out_1.length out_1c)), (4, (vi ((i_2 : Nat) : Int)))]) (fun n_3 out_1 out_1a out_1c out_1B i_2 => 6 - i_2 < n_3 ∧ Is (Tk l (6 + 1) [] 0) (Tk l n_3 out_1 i_2) ∧ Bt Ip 4 112 out_1a out_1c out_1B out_1 ∧ out_1.length ≤ i_2 ∧ i_2 ≤ 6 ∧ i_2 ≤ l.length) (fun n_3 out_1 out_1a out_1c out_1B i_2 => n_3) (6 + 1) ([]) none 0 ([]) 0 ?_ se (List.Perm.refl _) ?_
 ·exact ⟨Nat.lt_succ_self _, Is.refl _, Bt.nil, z7, z7, z7⟩
 ·rintro (_ | n_3) out_1 out_1a out_1c out_1B i_2 ⟨hm5, hF4, hout_1, hi6, hi7, hi8⟩
  ·omega
  refine Eu ?_
  refine Hp ?_
  refine sR ?_
  refine aB ?_
  refine Ao 10 rfl (fun hq1 => ?_) (fun hq1 => ?_)
  rotate_left
  ·refine Ab 2 rfl ?_
   refine Pe ?_
   refine kZ ?_
   refine Ia ?_
   refine Vc ?_
   refine Aa results36 z0 (fun w1 hw1 => ?_)
   exact ⟨out_1a, out_1c, out_1B, (rq (hF.rn2 (hF4.neg hq1))), (Ax (L := out_1B) (hw1.perm (List.Perm.refl _)) rfl.symm), (by rw [(hF.rn2 (hF4.neg hq1)).eq]; exact hout_1), (rl (hF.rn2 (hF4.neg hq1)))⟩
  refine N2 ?_
  refine rG ?_
  refine Bi rfl (fun hq2 => ?_) (fun hq2 => ?_)
  rotate_left
  ·refine Cu ?_
   refine Ia ?_
   refine Vc ?_
   refine Aa results36 z0 (fun w1 hw1 => ?_)
   exact ⟨out_1a, out_1c, out_1B, (rq (hF.rn2 ((hF4.pos hq1).neg hq2))), (Ax (L := out_1B) (hw1.perm (List.Perm.refl _)) rfl.symm), (by rw [(hF.rn2 ((hF4.pos hq1).neg hq2)).eq]; exact hout_1), (rl (hF.rn2 ((hF4.pos hq1).neg hq2)))⟩
  refine lL ?_
  refine Hp ?_
  refine Af (Cz (n := l.length) runUnderlying48 sizeOf112 i_2 eH (gD z4) Kc) (k := ?_)
  refine Af (Gt isAgg112 sizeOf112 i_2 eH (gD z4)) (k := ?_)
  refine Ak Ag z59 (k := fun r1 hr1 => ?_)
  refine wI ?_
  refine Od ?_
  refine Af (Al Vz) (k := ?_)
  refine Sj ?_
  refine Af (Al Vz) (k := ?_)
  refine rS ?_
  refine Af Vk (k := ?_)
  refine Af (Rq (s := ((l.getD i_2 default).key)) (min ((l.getD i_2 default).key).length 65) runUnderlying9 z3 (hj := by split <;> omega)) (k := ?_)
  have hsb2 : (((l.getD i_2 default).key).take (min ((l.getD i_2 default).key).length 65)).length = (min ((l.getD i_2 default).key).length 65) := by first | omega | (simp only [List.length_take, List.length_drop, List.length_cons, List.length_nil] <;> omega)
  refine Af (Al Vz) (k := ?_)
  refine Ep (Bn (l' := [_, _, _, _]) sizeOf9) (k := ?_)
  refine Z0 ?_
  refine Jt ?_
  refine N8 ?_
  refine Ak Ag z82 (k := fun r2 hr2 => ?_)
  refine Bb (out_1 ++ ([(Eb.mk ((l.getD i_2 default).id) (((l.getD i_2 default).key).take (min ((l.getD i_2 default).key).length 65)) ((l.getD i_2 default).frm) ((l.getD i_2 default).to))] : List Eb)) rfl qL underlying48 Ey hout_1 (qb (qb q0)) (Cl.lit (xs := ([(Eb.mk ((l.getD i_2 default).id) (((l.getD i_2 default).key).take (min ((l.getD i_2 default).key).length 65)) ((l.getD i_2 default).frm) ((l.getD i_2 default).to))] : List Eb)) Ey) ⟨by omega, by omega⟩ (n := out_1.length) (m := 1) (k := fun ax1 cx1 Bx1 hox1 => ?_)
  have hal1 : (out_1 ++ ([(Eb.mk ((l.getD i_2 default).id) (((l.getD i_2 default).key).take (min ((l.getD i_2 default).key).length 65)) ((l.getD i_2 default).frm) ((l.getD i_2 default).to))] : List Eb)).length = out_1.length + 1 := by first | rfl | exact List.length_append | simp
  refine Mj ?_
  refine kX ?_
  refine Dk _ (sa (sd (sd sz))) ?_
  refine Jt ?_
  refine Xe ?_
  exact Hv n_3 (out_1 ++ ([(Eb.mk ((l.getD i_2 default).id) (((l.getD i_2 default).key).take (min ((l.getD i_2 default).key).length 65)) ((l.getD i_2 default).frm) ((l.getD i_2 default).to))] : List Eb)) ax1 cx1 Bx1 (i_2 + 1) ⟨by omega, ((hF4.pos hq1).pos hq2), hox1, z3, z3, z3⟩ (Nat.lt_succ_self _) se (List.Perm.refl _)

end Go.Proofs.YtdnjanhdnibkfaaGreatDoor.Jd

namespace Go.Proofs.YtdnjanhdnibkfaaGreatDoor.Jd
open Go.Proofs.Tryz
set_option linter.unusedVariables false
set_option linter.unusedSimpArgs false
theorem Fs.append {a b : List Ah} (h : Fs a) (h2 : Fs b) : Fs (a ++ b) := by
  rw [Wv] at h h2 ⊢
  intro u hu
  rcases List.mem_append.1 hu with hu | hu
  · exact h u hu
  · exact h2 u hu
theorem Fs.one {t : Ah} (h1 : t.rules.length ≤ 1000) (h2 : t.creds.length ≤ 1000) : Fs [t] := Fs.cons ⟨h1, h2⟩ Fs.nil
theorem fA (l : List Eb) : ∀ n out i, out.length ≤ i → i ≤ 6 → (Tk l n out i).1.length ≤ 6
  | 0, out, i, h1, h2 => by simp only [Tk]; omega
  | n + 1, out, i, h1, h2 => by
    unfold Tk
    split
    · split
      · exact fA l n _ (i + 1) (by simp; omega) z3
      · simp only; omega
    · simp only; omega
theorem Y9 (l : List Eb) : (Wf l).length ≤ 6 := fA l 7 [] 0 Ij z3
theorem I1 (l : List Ie) : (Kn l).length ≤ 18 := by unfold Kn; rw [List.length_take]; omega
theorem Yf (r : Bk) : ∀ n i acc, Fs acc → Fs (Wz r n i acc).2
  | 0, i, acc, h => h
  | n + 1, i, acc, h => by
    unfold Wz
    split
    · split
      · refine Yf r n (i + 1) _ (h.append (Fs.one ?_ ?_))
        · exact Nat.le_trans (I1 _) (by decide)
        · exact Nat.le_trans (Y9 _) (by decide)
      · exact h
    · exact h
theorem Px (r : Bk) : Fs (Br r).l := Yf r 9 0 [] Fs.nil
theorem cH (r : Bk) : (Br r).slots.gens.length ≤ 66 ∧ (Br r).slots.used.length ≤ 66 ∧ (Br r).slots.free.length ≤ 66 := by
  refine ⟨?_, ?_, ?_⟩
  · show (List.take _ _).length ≤ 66
    rw [List.length_take]; omega
  · show (List.take _ _).length ≤ 66
    rw [List.length_take]; omega
  · show (List.take _ _).length ≤ 66
    rw [List.length_take]; omega
end Go.Proofs.YtdnjanhdnibkfaaGreatDoor.Jd

namespace Go.Proofs.YtdnjanhdnibkfaaGreatDoor.Jd
open Go.Proofs.Tryz
open Go.Proofs
open Go.RowKit (Below)
set_option maxRecDepth 100000
set_option maxHeartbeats 8000000
set_option linter.unusedVariables false
set_option linter.unusedSimpArgs false


theorem AA0 (w : World) {s_gens_a : Option Addr} {s_gens_c : Nat} {s_used_a : Option Addr} {s_used_c : Nat} {s_free_a : Option Addr} {s_free_c : Nat} {s : Slots} (h_s_gens : Sl w eI 1 s_gens_a s.gens) (k_s_gens : s.gens.length ≤ s_gens_c) (h_s_used : Sl w eB 1 s_used_a s.used) (k_s_used : s.used.length ≤ s_used_c) (h_s_free : Sl w eI 1 s_free_a s.free) (k_s_free : s.free.length ≤ s_free_c) : Ha Tryz.prog 34 [(Value.agg [(vs s_gens_a s.gens.length s_gens_c), (vs s_used_a s.used.length s_used_c), (vs s_free_a s.free.length s_free_c)].toArray)] w (Value.agg [(vs s_gens_a ((s.gens.take (min s.gens.length 66)).length) s_gens_c), (vs s_used_a ((s.used.take (min s.used.length 66)).length) s_used_c), (vs s_free_a ((s.free.take (min s.free.length 66)).length) s_free_c)].toArray) := by
 have hF := Is.refl s
 refine enter func34 ntmps34 (h := ?_)
 refine Z2 ?_
 refine Ak Ag Ll (k := fun r1 hr1 => ?_)
 refine Ak Ag J6 (k := fun r2 hr2 => ?_)
 refine Jr ?_
 refine Eh mixed 22 [(true, 0), (true, 1), (true, 2), (true, 3), (true, 4), (true, 5), (true, 6), (true, 7), (true, 8), (true, 9), (true, 10), (true, 11), (true, 12), (true, 13), (true, 14), (true, 15), (true, 16), (true, 17), (true, 18), (true, 19), (true, 20), (true, 21)] z2 ?_
 refine vG ?_
 refine vG ?_
 refine Be z71 (k := ?_)
 refine Be Vk (k := ?_)
 have hl1 : (s.gens.take (min s.gens.length 66)).length = (min s.gens.length 66) := by rw [List.length_take]; first | (split <;> omega) | omega
 refine Be (Hb (s.gens.take (min s.gens.length 66)).length runUnderlying24 (fun w => ⟨_, sizeOf3 w⟩) (hm := z3) (hi := by first | (split <;> omega) | omega)) (k := ?_)
 refine Be (Al Td) (k := ?_)
 refine Be (Bm isAgg29) (k := ?_)
 refine Be (Al Td) (k := ?_)
 refine Be (Bm isAgg29) (k := ?_)
 refine Be z72 (k := ?_)
 refine Be Vk (k := ?_)
 have hl2 : (s.used.take (min s.used.length 66)).length = (min s.used.length 66) := by rw [List.length_take]; first | (split <;> omega) | omega
 refine Be (Hb (s.used.take (min s.used.length 66)).length runUnderlying29 (fun w => ⟨_, sizeOf4 w⟩) (hm := z3) (hi := by first | (split <;> omega) | omega)) (k := ?_)
 refine Be (Al Og) (k := ?_)
 refine Be rC (k := ?_)
 refine Be (Al Og) (k := ?_)
 refine Be rC (k := ?_)
 refine Be z71 (k := ?_)
 refine Be Vk (k := ?_)
 have hl3 : (s.free.take (min s.free.length 66)).length = (min s.free.length 66) := by rw [List.length_take]; first | (split <;> omega) | omega
 refine Be (Hb (s.free.take (min s.free.length 66)).length runUnderlying24 (fun w => ⟨_, sizeOf3 w⟩) (hm := z3) (hi := by first | (split <;> omega) | omega)) (k := ?_)
 refine Be z43 (k := ?_)
 refine Mm ?_
 refine sN ?_
 refine kY ?_
 refine Aa results34 (Bw.agg isAgg31 sizeOf31 rfl me rfl Bw.nil) (fun w1 hw1 => ?_)
 exact ⟨by first | rfl | (simp only [List.length_take]; rfl), hw1.ext_out⟩

theorem AP0 (w : World) {r_Sg_a : Option Addr} {r_Sg_c : Nat} {r_Su_a : Option Addr} {r_Su_c : Nat} {r_Sf_a : Option Addr} {r_Sf_c : Nat} {r_l_a : Option Addr} {r_l_c : Nat} {r_l_t : List TA} {r : Bk} (h_r_Sg : Sl w eI 1 r_Sg_a r.slots.gens) (k_r_Sg : r.slots.gens.length ≤ r_Sg_c) (h_r_Su : Sl w eB 1 r_Su_a r.slots.used) (k_r_Su : r.slots.used.length ≤ r_Su_c) (h_r_Sf : Sl w eI 1 r_Sf_a r.slots.free) (k_r_Sf : r.slots.free.length ≤ r_Sf_c) (h_r_l : Yz w Ef 8 DT r_l_a r.l r_l_t) (k_r_l : r.l.length ≤ r_l_c) : Calls Tryz.prog 13 (List.toArray [(Value.agg [(vs r_Sg_a r.slots.gens.length r_Sg_c), (vs r_Su_a r.slots.used.length r_Su_c), (vs r_Sf_a r.slots.free.length r_Sf_c), (vs r_l_a r.l.length r_l_c), (vi r.seq)].toArray)]) w fun e w2 => ∃ a1 : Option Addr, ∃ c1 : Nat, ∃ t1 : List TA, ∃ B : Av, e = .returned (Value.agg [(vs r_Sg_a ((Br r).slots.gens.length) r_Sg_c), (vs r_Su_a ((Br r).slots.used.length) r_Su_c), (vs r_Sf_a ((Br r).slots.free.length) r_Sf_c), (vs a1 ((Br r).l.length) c1), (vi ((Br r).seq))].toArray) ∧ Ej w w2 B ∧ (Kr B Ef 8 DT a1 (Br r).l t1 ∧ (Br r).l.length ≤ c1) ∧ (Br r).l.length ≤ 8 := by
 have hF := Is.refl (Br r)
 refine enter func13 ntmps13 (h := ?_)
 refine Z2 ?_
 refine Ak Ag mH (k := fun r1 hr1 => ?_)
 refine Ak Ag J5 (k := fun r2 hr2 => ?_)
 refine Jr ?_
 refine yU (σ1 := Nat) (fun r143 => ((r143, oc [(vs r_Sg_a ((r.slots.gens.take (min r.slots.gens.length 66)).length) r_Sg_c), (vs r_Su_a ((r.slots.used.take (min r.slots.used.length 66)).length) r_Su_c), (vs r_Sf_a ((r.slots.free.take (min r.slots.free.length 66)).length) r_Sf_c), (vs none 0 0), (vi r.seq)] 34) :: ((r2, oc [(vs none 0 0), (vs none 0 0), (vs none 0 0), (vs none 0 0), (vi 0)] 34) :: ((r1, oc [(vs r_Sg_a r.slots.gens.length r_Sg_c), (vs r_Su_a r.slots.used.length r_Su_c), (vs r_Sf_a r.slots.free.length r_Sf_c), (vs r_l_a r.l.length r_l_c), (vi r.seq)] 34) :: [])))) (fun r143 => [(1, (Value.pointer (some ⟨r1, 0, none⟩))), (2, (Value.pointer (some ⟨r2, 0, none⟩))), (3, (Value.pointer (some ⟨r143, 0, none⟩)))]) (fun r143 => Is () ()) ?_ ?_
 ·skip
  refine Xx (V := []) mixed 7 z2 ?_
  refine Ct 0 rfl z2 (Al qM) (k := ?_)
  refine Ct 1 rfl z2 (Ch isAgg31 sizeOf31) (k := ?_)
  refine Ct 3 rfl z2 (Al Oh) (k := ?_)
  refine Ct 4 rfl z2 J9 (k := ?_)
  refine Cc [2, 6] z2 rfl (List.forall_mem_cons.2 ⟨?_, (List.forall_mem_cons.2 ⟨?_, nofun⟩)⟩)
  ·skip
   refine BF1 ?_
   refine Cc [6] z2 rfl (List.forall_mem_cons.2 ⟨?_, nofun⟩)
   ·skip
    refine fX rfl Ag J5 (k := fun r143 hr143 => ?_)
    refine D2 ?_
    refine lR ?_
    refine Dz ?_
    exact aZ r143 (Is.refl ()) se (List.Perm.refl _)
  ·skip
   refine fX rfl Ag J5 (k := fun r143 hr143 => ?_)
   refine Cc [2] z2 rfl (List.forall_mem_cons.2 ⟨?_, nofun⟩)
   ·skip
    refine BF1 ?_
    refine D2 ?_
    refine lR ?_
    refine Dz ?_
    exact aZ r143 (Is.refl ()) se (List.Perm.refl _)
 intro r143 hJ1
 refine Du ?_
 refine Eu ?_
 refine iQ ?_
 refine yN (σ1 := Nat) (σ2 := Nat) (σ3 := List Ah) (σ4 := List TA) (σ5 := Option Addr) (σ6 := Nat) (σ7 := Av) (σ8 := Av) (fun n_4 i_2 x_3 x_3t x_3a x_3c x_3B x_3R => (x_3B ++ (x_3R ++ ((r143, oc [(vs r_Sg_a ((r.slots.gens.take (min r.slots.gens.length 66)).length) r_Sg_c), (vs r_Su_a ((r.slots.used.take (min r.slots.used.length 66)).length) r_Su_c), (vs r_Sf_a ((r.slots.free.take (min r.slots.free.length 66)).length) r_Sf_c), (vs x_3a x_3.length x_3c), (vi r.seq)] 34) :: ((r2, oc [(vs none 0 0), (vs none 0 0), (vs none 0 0), (vs none 0 0), (vi 0)] 34) :: ((r1, oc [(vs r_Sg_a r.slots.gens.length r_Sg_c), (vs r_Su_a r.slots.used.length r_Su_c), (vs r_Sf_a r.slots.free.length r_Sf_c), (vs r_l_a r.l.length r_l_c), (vi r.seq)] 34) :: [])))))) (fun n_4 i_2 x_3 x_3t x_3a x_3c x_3B x_3R => [(1, (Value.pointer (some ⟨r1, 0, none⟩))), (2, (Value.pointer (some ⟨r2, 0, none⟩))), (3, (Value.pointer (some ⟨r143, 0, none⟩))), (4, (vi ((i_2 : Nat) : Int)))]) (fun n_4 i_2 x_3 x_3t x_3a x_3c x_3B x_3R => 8 - i_2 < n_4 ∧ Is (Wz r (8 + 1) 0 []) (Wz r n_4 i_2 x_3) ∧ (Bt Ef 8 50 x_3a x_3c x_3B (List.zip x_3 x_3t) ∧ Dr x_3R DT x_3 x_3t) ∧ x_3.length ≤ i_2 ∧ i_2 ≤ 8 ∧ i_2 ≤ r.l.length) (fun n_4 i_2 x_3 x_3t x_3a x_3c x_3B x_3R => n_4) (8 + 1) 0 ([]) ([]) none 0 ([]) ([]) ?_ se z54 ?_
 ·exact ⟨Nat.lt_succ_self _, Is.refl _, ⟨Bt.nil, Dr.nil⟩, z7, z7, z7⟩
 ·rintro (_ | n_4) i_2 x_3 x_3t x_3a x_3c x_3B x_3R ⟨hm6, hF5, ⟨hx_3, hdx_3⟩, hi7, hi8, hi9⟩
  ·omega
  refine fL ?_
  refine rY ?_
  refine wJ ?_
  refine aB ?_
  refine Ao 17 rfl (fun hq1 => ?_) (fun hq1 => ?_)
  rotate_left
  ·refine Ab 2 rfl ?_
   refine Pe ?_
   refine kZ ?_
   refine Ia ?_
   refine Se ?_
   refine oN ?_
   refine Aa results13 z38 (fun w1 hw1 => ?_)
   exact ⟨x_3a, x_3c, x_3t, (x_3B ++ x_3R), (rq ((hF.rn0 hJ1).rn2 (hF5.neg hq1))), (Ax (L := (x_3B ++ x_3R)) (hw1.perm (List.Perm.refl _)) (nA rfl).symm), (by rw [((hF.rn0 hJ1).rn2 (hF5.neg hq1)).eq]; exact ⟨((Bt.nb (U := (x_3B ++ x_3R)) Ca hx_3 hdx_3 (hB := sh) (hR := sh)).mono sh), (by have h0 := hx_3.le'; rwa [Hf hdx_3.1] at h0)⟩), (by rw [((hF.rn0 hJ1).rn2 (hF5.neg hq1)).eq]; first | exact lb | (simp; done))⟩
  refine N2 ?_
  refine rG ?_
  refine Bi rfl (fun hq2 => ?_) (fun hq2 => ?_)
  rotate_left
  ·refine Cu ?_
   refine Ia ?_
   refine Se ?_
   refine oN ?_
   refine Aa results13 z38 (fun w1 hw1 => ?_)
   exact ⟨x_3a, x_3c, x_3t, (x_3B ++ x_3R), (rq ((hF.rn0 hJ1).rn2 ((hF5.pos hq1).neg hq2))), (Ax (L := (x_3B ++ x_3R)) (hw1.perm (List.Perm.refl _)) (nA rfl).symm), (by rw [((hF.rn0 hJ1).rn2 ((hF5.pos hq1).neg hq2)).eq]; exact ⟨((Bt.nb (U := (x_3B ++ x_3R)) Ca hx_3 hdx_3 (hB := sh) (hR := sh)).mono sh), (by have h0 := hx_3.le'; rwa [Hf hdx_3.1] at h0)⟩), (by rw [((hF.rn0 hJ1).rn2 ((hF5.pos hq1).neg hq2)).eq]; first | exact lb | (simp; done))⟩
  refine dD ?_
  refine rY ?_
  refine Ck ?_
  refine Af (Cz (n := r.l.length) runUnderlying32 sizeOf50 i_2 (Hn.of_base Je h_r_l).sl (Wo h_r_l.1 z4) (Hf h_r_l.1)) (k := ?_)
  have hcp3 := (h_r_l.2.2 i_2 z4).2.2.1
  have hcp4 := (h_r_l.2.2 i_2 z4).2.2.2
  refine Af (Gt isAgg50 sizeOf50 i_2 (Hn.of_base Je h_r_l).sl (Wo h_r_l.1 z4)) (k := ?_)
  refine Ak Ag eG (k := fun r183 hr183 => ?_)
  refine pE ?_
  refine Od ?_
  refine AH0 ?_
  refine Af (Al hY) (k := ?_)
  refine rS ?_
  refine Af Vk (k := ?_)
  refine Af (Rq (s := ((r.l.getD i_2 default).name)) (min ((r.l.getD i_2 default).name).length 41) runUnderlying9 z3 (hj := by first | (split <;> omega) | (dsimp only; split <;> omega))) (k := ?_)
  have hsb3 : (((r.l.getD i_2 default).name).take (min ((r.l.getD i_2 default).name).length 41)).length = (min ((r.l.getD i_2 default).name).length 41) := by first | omega | (simp only [List.length_take, List.length_drop, List.length_cons, List.length_nil] <;> omega)
  refine Af (Al hY) (k := ?_)
  refine Ep (Bn (l' := [_, _, _, _, _, _, _, _]) sizeOf9) (k := ?_)
  refine Od ?_
  refine AG8 ?_
  refine Kq (Ac call35) (fun w1 hw1 => Y8 w1 (l := ((r.l.getD i_2 default).rules)) (h_l := (fun w hw => ((Hn.of_base Je h_r_l).at (m := i_2) z4 w hw).1) w1 hw1) (k_l := Ng)) (k := ?_)
  rintro w1_181 e1_181 w2_181 hw1_181 ⟨a1_181, c1_181, B1_181, he_181, hf_181, ho1_181, hl1_181⟩
  refine ⟨_, _, he_181, hw1_181.fresh hf_181, ?_⟩
  refine Af (Al bZ) (k := ?_)
  refine Ep (Bn (l' := [_, _, _, _, _, _, _, _]) sizeOf47) (k := ?_)
  refine Od ?_
  refine Af (Al Wt) (k := ?_)
  refine Af (Bm isAgg48) (k := ?_)
  refine Kq (Ac call36) (fun w1 hw1 => AO9 w1 (l := ((r.l.getD i_2 default).creds)) (h_l := (fun w hw => ((Hn.of_base Je h_r_l).at (m := i_2) z4 w hw).2.1) w1 hw1)) (k := ?_)
  rintro w1_182 e1_182 w2_182 hw1_182 ⟨a1_182, c1_182, B1_182, he_182, hf_182, ho1_182, hl1_182⟩
  refine ⟨_, _, he_182, hw1_182.fresh hf_182, ?_⟩
  refine Af (Al Wt) (k := ?_)
  refine Ep (Bn (l' := [_, _, _, _, _, _, _, _]) sizeOf48) (k := ?_)
  refine Z0 ?_
  refine Cp ?_
  refine rY ?_
  refine O0 ?_
  refine Ak Ag z25 (k := fun r184 hr184 => ?_)
  refine Bb (List.zip (x_3 ++ ([(Ah.mk ((r.l.getD i_2 default).handle) (((r.l.getD i_2 default).name).take (min ((r.l.getD i_2 default).name).length 41)) ((r.l.getD i_2 default).state) ((r.l.getD i_2 default).version) (Kn ((r.l.getD i_2 default).rules)) (Wf ((r.l.getD i_2 default).creds)) ((r.l.getD i_2 default).deadline))] : List Ah)) (x_3t ++ ([⟨a1_181, c1_181, a1_182, c1_182⟩] : List TA))) (List.zip_append hdx_3.1.symm).symm Jx underlying32 Ca hx_3 (qb (qd (qd (qb q0)))) (Bt.nj Ca (Bt.mk (xs := List.zip ([(Ah.mk ((r.l.getD i_2 default).handle) (((r.l.getD i_2 default).name).take (min ((r.l.getD i_2 default).name).length 41)) ((r.l.getD i_2 default).state) ((r.l.getD i_2 default).version) (Kn ((r.l.getD i_2 default).rules)) (Wf ((r.l.getD i_2 default).creds)) ((r.l.getD i_2 default).deadline))] : List Ah) ([⟨a1_181, c1_181, a1_182, c1_182⟩] : List TA)) rfl rfl Ca) (Dr.one (B := (B1_181 ++ (B1_182 ++ []))) (D := DT) (x := (Ah.mk ((r.l.getD i_2 default).handle) (((r.l.getD i_2 default).name).take (min ((r.l.getD i_2 default).name).length 41)) ((r.l.getD i_2 default).state) ((r.l.getD i_2 default).version) (Kn ((r.l.getD i_2 default).rules)) (Wf ((r.l.getD i_2 default).creds)) ((r.l.getD i_2 default).deadline))) (t := (⟨a1_181, c1_181, a1_182, c1_182⟩ : TA)) (fun w hw => ⟨(ho1_181.sl Hk (tQ hw)), (ho1_182.sl Ey (tQ hw)), ho1_181.le', ho1_182.le'⟩)) (hB := sh) (hR := sh)).sl ⟨by first | exact lb, by first | exact lb⟩ (n := x_3.length) (m := 1) (hn := (Hf hdx_3.1)) (hm := (Hf (Dr.one (B := (B1_181 ++ (B1_182 ++ []))) (D := DT) (x := (Ah.mk ((r.l.getD i_2 default).handle) (((r.l.getD i_2 default).name).take (min ((r.l.getD i_2 default).name).length 41)) ((r.l.getD i_2 default).state) ((r.l.getD i_2 default).version) (Kn ((r.l.getD i_2 default).rules)) (Wf ((r.l.getD i_2 default).creds)) ((r.l.getD i_2 default).deadline))) (t := (⟨a1_181, c1_181, a1_182, c1_182⟩ : TA)) (fun w hw => ⟨(ho1_181.sl Hk (tQ hw)), (ho1_182.sl Ey (tQ hw)), ho1_181.le', ho1_182.le'⟩)).1)) (k := fun ax181 cx181 Bx181 hox181 => ?_)
  have hzl181 : (List.zip (x_3 ++ ([(Ah.mk ((r.l.getD i_2 default).handle) (((r.l.getD i_2 default).name).take (min ((r.l.getD i_2 default).name).length 41)) ((r.l.getD i_2 default).state) ((r.l.getD i_2 default).version) (Kn ((r.l.getD i_2 default).rules)) (Wf ((r.l.getD i_2 default).creds)) ((r.l.getD i_2 default).deadline))] : List Ah)) (x_3t ++ ([⟨a1_181, c1_181, a1_182, c1_182⟩] : List TA))).length = (x_3 ++ ([(Ah.mk ((r.l.getD i_2 default).handle) (((r.l.getD i_2 default).name).take (min ((r.l.getD i_2 default).name).length 41)) ((r.l.getD i_2 default).state) ((r.l.getD i_2 default).version) (Kn ((r.l.getD i_2 default).rules)) (Wf ((r.l.getD i_2 default).creds)) ((r.l.getD i_2 default).deadline))] : List Ah)).length := Hf (by rw [List.length_append, List.length_append, hdx_3.1, (Dr.one (B := (B1_181 ++ (B1_182 ++ []))) (D := DT) (x := (Ah.mk ((r.l.getD i_2 default).handle) (((r.l.getD i_2 default).name).take (min ((r.l.getD i_2 default).name).length 41)) ((r.l.getD i_2 default).state) ((r.l.getD i_2 default).version) (Kn ((r.l.getD i_2 default).rules)) (Wf ((r.l.getD i_2 default).creds)) ((r.l.getD i_2 default).deadline))) (t := (⟨a1_181, c1_181, a1_182, c1_182⟩ : TA)) (fun w hw => ⟨(ho1_181.sl Hk (tQ hw)), (ho1_182.sl Ey (tQ hw)), ho1_181.le', ho1_182.le'⟩)).1])
  rw [hzl181]
  have hal181 : (x_3 ++ ([(Ah.mk ((r.l.getD i_2 default).handle) (((r.l.getD i_2 default).name).take (min ((r.l.getD i_2 default).name).length 41)) ((r.l.getD i_2 default).state) ((r.l.getD i_2 default).version) (Kn ((r.l.getD i_2 default).rules)) (Wf ((r.l.getD i_2 default).creds)) ((r.l.getD i_2 default).deadline))] : List Ah)).length = x_3.length + 1 := List.length_append
  have hdp5 : Dr (x_3R ++ (B1_181 ++ (B1_182 ++ []))) DT (x_3 ++ ([(Ah.mk ((r.l.getD i_2 default).handle) (((r.l.getD i_2 default).name).take (min ((r.l.getD i_2 default).name).length 41)) ((r.l.getD i_2 default).state) ((r.l.getD i_2 default).version) (Kn ((r.l.getD i_2 default).rules)) (Wf ((r.l.getD i_2 default).creds)) ((r.l.getD i_2 default).deadline))] : List Ah)) (x_3t ++ ([⟨a1_181, c1_181, a1_182, c1_182⟩] : List TA)) := Dr.append (hdx_3.mono sh) ((Dr.one (B := (B1_181 ++ (B1_182 ++ []))) (D := DT) (x := (Ah.mk ((r.l.getD i_2 default).handle) (((r.l.getD i_2 default).name).take (min ((r.l.getD i_2 default).name).length 41)) ((r.l.getD i_2 default).state) ((r.l.getD i_2 default).version) (Kn ((r.l.getD i_2 default).rules)) (Wf ((r.l.getD i_2 default).creds)) ((r.l.getD i_2 default).deadline))) (t := (⟨a1_181, c1_181, a1_182, c1_182⟩ : TA)) (fun w hw => ⟨(ho1_181.sl Hk (tQ hw)), (ho1_182.sl Ey (tQ hw)), ho1_181.le', ho1_182.le'⟩)).mono sh)
  refine Af (Al Qo) (k := ?_)
  refine Ep (Bn (l' := [_, _, _, _, _]) sizeOf32) (k := ?_)
  refine Dz ?_
  refine kX ?_
  refine Dk _ (sa (sd (sa (sa (sd (sa (sk (sk (sk sz))))))))) ?_
  refine Jt ?_
  refine Xe ?_
  refine Dt _ (((((((qc (qc (qc (qc (qa (qa q0)))))).trans (qa (qc (qc (qc (qc (qa q0))))))).trans (qa (qa (qc (qc (qc (qc q0))))))).trans (qb (qb (qb (qd q0))))).trans (qd (qb (qb (qb (qd q0)))))).trans (qd (qd (qb (qb (qb (qd q0))))))).trans (qd (qd (qd (qb (qb (qb q0))))))) ?_
  exact yO n_4 (i_2 + 1) (x_3 ++ ([(Ah.mk ((r.l.getD i_2 default).handle) (((r.l.getD i_2 default).name).take (min ((r.l.getD i_2 default).name).length 41)) ((r.l.getD i_2 default).state) ((r.l.getD i_2 default).version) (Kn ((r.l.getD i_2 default).rules)) (Wf ((r.l.getD i_2 default).creds)) ((r.l.getD i_2 default).deadline))] : List Ah)) (x_3t ++ ([⟨a1_181, c1_181, a1_182, c1_182⟩] : List TA)) ax181 cx181 Bx181 (x_3R ++ (B1_181 ++ B1_182)) ⟨by omega, ((hF5.pos hq1).pos hq2), ⟨hox181, (hdp5.mono sh)⟩, z3, z3, z3⟩ (Nat.lt_succ_self _) se z54

end Go.Proofs.YtdnjanhdnibkfaaGreatDoor.Jd

namespace Go.Proofs.YtdnjanhdnibkfaaGreatDoor
open Go.Proofs.Tryz
open Go.Proofs Go.Proofs.YtdnjanhdnibkfaaGreatDoor.Jd
open Go.ChangeShapes Go.WideShapes Go.ChangeAt Go.RowKit Go.ChangeMaps
set_option maxRecDepth 100000
set_option linter.unusedVariables false
set_option linter.unusedSimpArgs false
section
variable {H : Type} {enc : TypeId × Value → H} {W : World}
theorem AP1 {n : Nat} {cs : List Value} {y : DataW H × List MemPlace} (h : DataW.trod enc Tryz.prog W 0 (fun _ => true) true n 29 cs = some y) : ∃ v0 : Option Addr, ∃ v1 : Nat, ∃ v2 : List Bool, cs = [Value.slice v0 v2.length v1] ∧ v2.length ≤ v1 ∧ Sl W eB 1 v0 v2 := by
  obtain ⟨a, c, xs, h1, h2, h3⟩ := aX (enc := eB) (k := 1) underlying29 z2 Oa (yE underlying4) h
  exact ⟨a, c, xs, h1, h2, h3⟩
theorem AP2 {n : Nat} {cs : List Value} {y : DataW H × List MemPlace} (h : DataW.trod enc Tryz.prog W 0 (fun _ => true) true n 31 cs = some y) : ∃ v0 : Option Addr, ∃ v1 : Nat, ∃ v2 : List Int, ∃ v3 : Option Addr, ∃ v4 : Nat, ∃ v5 : List Bool, ∃ v6 : Option Addr, ∃ v7 : Nat, ∃ v8 : List Int, cs = [Value.slice v0 v2.length v1, Value.slice v3 v5.length v4, Value.slice v6 v8.length v7] ∧ v2.length ≤ v1 ∧ Sl W eI 1 v0 v2 ∧ v5.length ≤ v4 ∧ Sl W eB 1 v3 v5 ∧ v8.length ≤ v7 ∧ Sl W eI 1 v6 v8 := by
  obtain ⟨xs, m, _, _, hlen, hxl, hf⟩ := DataW.trod_struct underlying31 h
  have hc : cs.length = 3 := Eq.trans hlen z2
  have hxl2 : xs.length = 3 := by simpa using hxl
  have e0 := hf 0 _ rfl
  rw [List.getElem?_eq_getElem z3] at e0
  obtain ⟨v0_0, v0_1, v0_2, q0, f0_0, f0_1⟩ := qT e0
  have q02 : (cs.drop 0).take 1 = [.slice v0_0 v0_2.length v0_1] := Eq.trans (congrArg (fun k => (cs.drop 0).take k) (show 1 = Tryz.prog.cellsOf 24 by kernel_rfl)) q0
  have e1 := hf 1 _ rfl
  rw [List.getElem?_eq_getElem z3] at e1
  obtain ⟨v1_0, v1_1, v1_2, q1, f1_0, f1_1⟩ := AP1 e1
  have q12 : (cs.drop 1).take 1 = [.slice v1_0 v1_2.length v1_1] := Eq.trans (congrArg (fun k => (cs.drop 1).take k) (show 1 = Tryz.prog.cellsOf 29 by kernel_rfl)) q1
  have e2 := hf 2 _ rfl
  rw [List.getElem?_eq_getElem z3] at e2
  obtain ⟨v2_0, v2_1, v2_2, q2, f2_0, f2_1⟩ := qT e2
  have q22 : (cs.drop 2).take 1 = [.slice v2_0 v2_2.length v2_1] := Eq.trans (congrArg (fun k => (cs.drop 2).take k) (show 1 = Tryz.prog.cellsOf 24 by kernel_rfl)) q2
  refine ⟨v0_0, v0_1, v0_2, v1_0, v1_1, v1_2, v2_0, v2_1, v2_2, ?_, f0_0, f0_1, f1_0, f1_1, f2_0, f2_1⟩
  have h0 : cs = cs.drop 0 := rfl
  rw [h0, Cm cs 0 1 1 rfl, q02, Cm cs 1 1 2 rfl, q12, Cm cs 2 1 3 rfl, q22, List.drop_of_length_le z3]
  rfl
theorem BC0 {n : Nat} {cs : List Value} {y : DataW H × List MemPlace} (h : DataW.trod enc Tryz.prog W 0 (fun _ => true) true n 4 cs = some y) : ∃ v0 : Bool, cs = [Value.bool v0] := by
  obtain ⟨b, h1, _⟩ := DataW.trod_bool underlying4 h
  exact ⟨b, h1⟩
theorem AP3 {n : Nat} {cs : List Value} {y : DataW H × List MemPlace} (h : DataW.trod enc Tryz.prog W 0 (fun _ => true) true n 80 cs = some y) : ∃ v0 : Int, ∃ v1 : Int, cs = [Value.int .i64 v0, Value.int .i64 v1] ∧ (-9223372036854775808 ≤ v0 ∧ v0 ≤ 9223372036854775807) ∧ (-9223372036854775808 ≤ v1 ∧ v1 ≤ 9223372036854775807) := by
  obtain ⟨xs, m, _, _, hlen, hxl, hf⟩ := DataW.trod_struct underlying80 h
  have hc : cs.length = 2 := Eq.trans hlen z2
  have hxl2 : xs.length = 2 := by simpa using hxl
  have e0 := hf 0 _ rfl
  rw [List.getElem?_eq_getElem z3] at e0
  obtain ⟨v0_0, q0, f0_0⟩ := Ii e0
  have q02 : (cs.drop 0).take 1 = [.int .i64 v0_0] := Eq.trans (congrArg (fun k => (cs.drop 0).take k) (show 1 = Tryz.prog.cellsOf 3 by kernel_rfl)) q0
  have e1 := hf 1 _ rfl
  rw [List.getElem?_eq_getElem z3] at e1
  obtain ⟨v1_0, q1, f1_0⟩ := Ii e1
  have q12 : (cs.drop 1).take 1 = [.int .i64 v1_0] := Eq.trans (congrArg (fun k => (cs.drop 1).take k) (show 1 = Tryz.prog.cellsOf 3 by kernel_rfl)) q1
  refine ⟨v0_0, v1_0, ?_, f0_0, f1_0⟩
  have h0 : cs = cs.drop 0 := rfl
  rw [h0, Cm cs 0 1 1 rfl, q02, Cm cs 1 1 2 rfl, q12, List.drop_of_length_le z3]
  rfl
theorem AP4 {n : Nat} {cs : List Value} {y : DataW H × List MemPlace} (h : DataW.trod enc Tryz.prog W 0 (fun _ => true) true n 82 cs = some y) : ∃ v0 : Int, ∃ v1 : Int, cs = [Value.int .i64 v0, Value.int .i64 v1] ∧ (-9223372036854775808 ≤ v0 ∧ v0 ≤ 9223372036854775807) ∧ (-9223372036854775808 ≤ v1 ∧ v1 ≤ 9223372036854775807) := by
  obtain ⟨xs, m, _, _, hlen, hxl, hf⟩ := DataW.trod_struct underlying82 h
  have hc : cs.length = 2 := Eq.trans hlen z2
  have hxl2 : xs.length = 2 := by simpa using hxl
  have e0 := hf 0 _ rfl
  rw [List.getElem?_eq_getElem z3] at e0
  obtain ⟨v0_0, q0, f0_0⟩ := Ii e0
  have q02 : (cs.drop 0).take 1 = [.int .i64 v0_0] := Eq.trans (congrArg (fun k => (cs.drop 0).take k) (show 1 = Tryz.prog.cellsOf 3 by kernel_rfl)) q0
  have e1 := hf 1 _ rfl
  rw [List.getElem?_eq_getElem z3] at e1
  obtain ⟨v1_0, q1, f1_0⟩ := Ii e1
  have q12 : (cs.drop 1).take 1 = [.int .i64 v1_0] := Eq.trans (congrArg (fun k => (cs.drop 1).take k) (show 1 = Tryz.prog.cellsOf 3 by kernel_rfl)) q1
  refine ⟨v0_0, v1_0, ?_, f0_0, f1_0⟩
  have h0 : cs = cs.drop 0 := rfl
  rw [h0, Cm cs 0 1 1 rfl, q02, Cm cs 1 1 2 rfl, q12, List.drop_of_length_le z3]
  rfl
theorem AP5 {n : Nat} {cs : List Value} {y : DataW H × List MemPlace} (h : DataW.trod enc Tryz.prog W 0 (fun _ => true) true n 84 cs = some y) : ∃ v0 : Bool, ∃ v1 : Int, ∃ v2 : Int, ∃ v3 : Int, ∃ v4 : Int, cs = [Value.bool v0, Value.int .i64 v1, Value.int .i64 v2, Value.int .i64 v3, Value.int .i64 v4] ∧ (-9223372036854775808 ≤ v1 ∧ v1 ≤ 9223372036854775807) ∧ (-9223372036854775808 ≤ v2 ∧ v2 ≤ 9223372036854775807) ∧ (-9223372036854775808 ≤ v3 ∧ v3 ≤ 9223372036854775807) ∧ (-9223372036854775808 ≤ v4 ∧ v4 ≤ 9223372036854775807) := by
  obtain ⟨xs, m, _, _, hlen, hxl, hf⟩ := DataW.trod_struct underlying84 h
  have hc : cs.length = 5 := Eq.trans hlen z2
  have hxl2 : xs.length = 3 := by simpa using hxl
  have e0 := hf 0 _ rfl
  rw [List.getElem?_eq_getElem z3] at e0
  obtain ⟨v0_0, q0⟩ := BC0 e0
  have q02 : (cs.drop 0).take 1 = [.bool v0_0] := Eq.trans (congrArg (fun k => (cs.drop 0).take k) (show 1 = Tryz.prog.cellsOf 4 by kernel_rfl)) q0
  have e1 := hf 1 _ rfl
  rw [List.getElem?_eq_getElem z3] at e1
  obtain ⟨v1_0, v1_1, q1, f1_0, f1_1⟩ := AP3 e1
  have q12 : (cs.drop 1).take 2 = [.int .i64 v1_0, .int .i64 v1_1] := Eq.trans (congrArg (fun k => (cs.drop 1).take k) (show 2 = Tryz.prog.cellsOf 80 by kernel_rfl)) q1
  have e2 := hf 2 _ rfl
  rw [List.getElem?_eq_getElem z3] at e2
  obtain ⟨v2_0, v2_1, q2, f2_0, f2_1⟩ := AP4 e2
  have q22 : (cs.drop 3).take 2 = [.int .i64 v2_0, .int .i64 v2_1] := Eq.trans (congrArg (fun k => (cs.drop 3).take k) (show 2 = Tryz.prog.cellsOf 82 by kernel_rfl)) q2
  refine ⟨v0_0, v1_0, v1_1, v2_0, v2_1, ?_, f1_0, f1_1, f2_0, f2_1⟩
  have h0 : cs = cs.drop 0 := rfl
  rw [h0, Cm cs 0 1 1 rfl, q02, Cm cs 1 2 3 rfl, q12, Cm cs 3 2 5 rfl, q22, List.drop_of_length_le z3]
  rfl
theorem AP6 {n : Nat} {cs : List Value} {y : DataW H × List MemPlace} (h : DataW.trod enc Tryz.prog W 0 (fun _ => true) true n 47 cs = some y) : ∃ v0 : Option Addr, ∃ v1 : Nat, ∃ v2 : List Ie, cs = [Value.slice v0 v2.length v1] ∧ v2.length ≤ v1 ∧ Sl W Lb 5 v0 v2 := by
  obtain ⟨a, c, xs, h1, h2, h3⟩ := aX (enc := Lb) (k := 5) underlying47 z2 Hk (fun n cs y h => by obtain ⟨v0, v1, v2, v3, v4, rfl, _, _, _, _⟩ := AP5 h; exact ⟨(Ie.mk v0 (Js.mk v1 v2) (Sz.mk v3 v4)), rfl⟩) h
  exact ⟨a, c, xs, h1, h2, h3⟩
theorem AA1 {n : Nat} {cs : List Value} {y : DataW H × List MemPlace} (h : DataW.trod enc Tryz.prog W 0 (fun _ => true) true n 112 cs = some y) : ∃ v0 : Int, ∃ v1 : An, ∃ v2 : Int, ∃ v3 : Int, cs = [Value.int .i64 v0, Value.string (bs v1), Value.int .i64 v2, Value.int .i64 v3] ∧ (-9223372036854775808 ≤ v0 ∧ v0 ≤ 9223372036854775807) ∧ (-9223372036854775808 ≤ v2 ∧ v2 ≤ 9223372036854775807) ∧ (-9223372036854775808 ≤ v3 ∧ v3 ≤ 9223372036854775807) := by
  obtain ⟨xs, m, _, _, hlen, hxl, hf⟩ := DataW.trod_struct underlying112 h
  have hc : cs.length = 4 := Eq.trans hlen z2
  have hxl2 : xs.length = 4 := by simpa using hxl
  have e0 := hf 0 _ rfl
  rw [List.getElem?_eq_getElem z3] at e0
  obtain ⟨v0_0, q0, f0_0⟩ := Ii e0
  have q02 : (cs.drop 0).take 1 = [.int .i64 v0_0] := Eq.trans (congrArg (fun k => (cs.drop 0).take k) (show 1 = Tryz.prog.cellsOf 3 by kernel_rfl)) q0
  have e1 := hf 1 _ rfl
  rw [List.getElem?_eq_getElem z3] at e1
  obtain ⟨v1_0, q1⟩ := qS e1
  have q12 : (cs.drop 1).take 1 = [.string (bs v1_0)] := Eq.trans (congrArg (fun k => (cs.drop 1).take k) (show 1 = Tryz.prog.cellsOf 9 by kernel_rfl)) q1
  have e2 := hf 2 _ rfl
  rw [List.getElem?_eq_getElem z3] at e2
  obtain ⟨v2_0, q2, f2_0⟩ := Ii e2
  have q22 : (cs.drop 2).take 1 = [.int .i64 v2_0] := Eq.trans (congrArg (fun k => (cs.drop 2).take k) (show 1 = Tryz.prog.cellsOf 3 by kernel_rfl)) q2
  have e3 := hf 3 _ rfl
  rw [List.getElem?_eq_getElem z3] at e3
  obtain ⟨v3_0, q3, f3_0⟩ := Ii e3
  have q32 : (cs.drop 3).take 1 = [.int .i64 v3_0] := Eq.trans (congrArg (fun k => (cs.drop 3).take k) (show 1 = Tryz.prog.cellsOf 3 by kernel_rfl)) q3
  refine ⟨v0_0, v1_0, v2_0, v3_0, ?_, f0_0, f2_0, f3_0⟩
  have h0 : cs = cs.drop 0 := rfl
  rw [h0, Cm cs 0 1 1 rfl, q02, Cm cs 1 1 2 rfl, q12, Cm cs 2 1 3 rfl, q22, Cm cs 3 1 4 rfl, q32, List.drop_of_length_le z3]
  rfl
theorem AP7 {n : Nat} {cs : List Value} {y : DataW H × List MemPlace} (h : DataW.trod enc Tryz.prog W 0 (fun _ => true) true n 48 cs = some y) : ∃ v0 : Option Addr, ∃ v1 : Nat, ∃ v2 : List Eb, cs = [Value.slice v0 v2.length v1] ∧ v2.length ≤ v1 ∧ Sl W Ip 4 v0 v2 := by
  obtain ⟨a, c, xs, h1, h2, h3⟩ := aX (enc := Ip) (k := 4) underlying48 z2 Ey (fun n cs y h => by obtain ⟨v0, v1, v2, v3, rfl, _, _, _⟩ := AA1 h; exact ⟨(Eb.mk v0 v1 v2 v3), rfl⟩) h
  exact ⟨a, c, xs, h1, h2, h3⟩
theorem AP8 {n : Nat} {cs : List Value} {y : DataW H × List MemPlace} (h : DataW.trod enc Tryz.prog W 0 (fun _ => true) true n 50 cs = some y) : ∃ v0 : Int, ∃ v1 : Int, ∃ v2 : An, ∃ v3 : Int, ∃ v4 : Int, ∃ v5 : Option Addr, ∃ v6 : Nat, ∃ v7 : List Ie, ∃ v8 : Option Addr, ∃ v9 : Nat, ∃ v10 : List Eb, ∃ v11 : Int, cs = [Value.int .i64 v0, Value.int .i64 v1, Value.string (bs v2), Value.int .i64 v3, Value.int .i64 v4, Value.slice v5 v7.length v6, Value.slice v8 v10.length v9, Value.int .i64 v11] ∧ (-9223372036854775808 ≤ v0 ∧ v0 ≤ 9223372036854775807) ∧ (-9223372036854775808 ≤ v1 ∧ v1 ≤ 9223372036854775807) ∧ (-9223372036854775808 ≤ v3 ∧ v3 ≤ 9223372036854775807) ∧ (-9223372036854775808 ≤ v4 ∧ v4 ≤ 9223372036854775807) ∧ v7.length ≤ v6 ∧ Sl W Lb 5 v5 v7 ∧ v10.length ≤ v9 ∧ Sl W Ip 4 v8 v10 ∧ (-9223372036854775808 ≤ v11 ∧ v11 ≤ 9223372036854775807) := by
  obtain ⟨xs, m, _, _, hlen, hxl, hf⟩ := DataW.trod_struct underlying50 h
  have hc : cs.length = 8 := Eq.trans hlen z2
  have hxl2 : xs.length = 7 := by simpa using hxl
  have e0 := hf 0 _ rfl
  rw [List.getElem?_eq_getElem z3] at e0
  obtain ⟨v0_0, v0_1, q0, f0_0, f0_1⟩ := zU e0
  have q02 : (cs.drop 0).take 2 = [.int .i64 v0_0, .int .i64 v0_1] := Eq.trans (congrArg (fun k => (cs.drop 0).take k) (show 2 = Tryz.prog.cellsOf 23 by kernel_rfl)) q0
  have e1 := hf 1 _ rfl
  rw [List.getElem?_eq_getElem z3] at e1
  obtain ⟨v1_0, q1⟩ := qS e1
  have q12 : (cs.drop 2).take 1 = [.string (bs v1_0)] := Eq.trans (congrArg (fun k => (cs.drop 2).take k) (show 1 = Tryz.prog.cellsOf 9 by kernel_rfl)) q1
  have e2 := hf 2 _ rfl
  rw [List.getElem?_eq_getElem z3] at e2
  obtain ⟨v2_0, q2, f2_0⟩ := Ii e2
  have q22 : (cs.drop 3).take 1 = [.int .i64 v2_0] := Eq.trans (congrArg (fun k => (cs.drop 3).take k) (show 1 = Tryz.prog.cellsOf 3 by kernel_rfl)) q2
  have e3 := hf 3 _ rfl
  rw [List.getElem?_eq_getElem z3] at e3
  obtain ⟨v3_0, q3, f3_0⟩ := Ii e3
  have q32 : (cs.drop 4).take 1 = [.int .i64 v3_0] := Eq.trans (congrArg (fun k => (cs.drop 4).take k) (show 1 = Tryz.prog.cellsOf 3 by kernel_rfl)) q3
  have e4 := hf 4 _ rfl
  rw [List.getElem?_eq_getElem z3] at e4
  obtain ⟨v4_0, v4_1, v4_2, q4, f4_0, f4_1⟩ := AP6 e4
  have q42 : (cs.drop 5).take 1 = [.slice v4_0 v4_2.length v4_1] := Eq.trans (congrArg (fun k => (cs.drop 5).take k) (show 1 = Tryz.prog.cellsOf 47 by kernel_rfl)) q4
  have e5 := hf 5 _ rfl
  rw [List.getElem?_eq_getElem z3] at e5
  obtain ⟨v5_0, v5_1, v5_2, q5, f5_0, f5_1⟩ := AP7 e5
  have q52 : (cs.drop 6).take 1 = [.slice v5_0 v5_2.length v5_1] := Eq.trans (congrArg (fun k => (cs.drop 6).take k) (show 1 = Tryz.prog.cellsOf 48 by kernel_rfl)) q5
  have e6 := hf 6 _ rfl
  rw [List.getElem?_eq_getElem z3] at e6
  obtain ⟨v6_0, q6, f6_0⟩ := Ii e6
  have q62 : (cs.drop 7).take 1 = [.int .i64 v6_0] := Eq.trans (congrArg (fun k => (cs.drop 7).take k) (show 1 = Tryz.prog.cellsOf 3 by kernel_rfl)) q6
  refine ⟨v0_0, v0_1, v1_0, v2_0, v3_0, v4_0, v4_1, v4_2, v5_0, v5_1, v5_2, v6_0, ?_, f0_0, f0_1, f2_0, f3_0, f4_0, f4_1, f5_0, f5_1, f6_0⟩
  have h0 : cs = cs.drop 0 := rfl
  rw [h0, Cm cs 0 2 2 rfl, q02, Cm cs 2 1 3 rfl, q12, Cm cs 3 1 4 rfl, q22, Cm cs 4 1 5 rfl, q32, Cm cs 5 1 6 rfl, q42, Cm cs 6 1 7 rfl, q52, Cm cs 7 1 8 rfl, q62, List.drop_of_length_le z3]
  rfl
theorem AP9 {n : Nat} {cs : List Value} {y : DataW H × List MemPlace} (h : DataW.trod enc Tryz.prog W 0 (fun _ => true) true n 32 cs = some y) : ∃ v0 : Option Addr, ∃ v1 : Nat, ∃ v2 : List Ah, ∃ v3 : List TA, cs = [Value.slice v0 v2.length v1] ∧ v2.length ≤ v1 ∧ Yz W Ef 8 DT v0 v2 v3 := by
  obtain ⟨a, c, xs, ts, h1, h2, h3⟩ := Y7 (enc := Ef) (D := DT) (k := 8) underlying32 z2 Ca (fun n cs y h => by obtain ⟨v0, v1, v2, v3, v4, v5, v6, v7, v8, v9, v10, v11, rfl, f0, f1, f2, f3, f4, f5, f6, f7, f8⟩ := AP8 h; exact ⟨(Ah.mk (Handle.mk v0 v1) v2 v3 v4 v7 v10 v11), ⟨v5, v6, v8, v9⟩, rfl, ⟨f5, f7, f4, f6⟩⟩) h
  exact ⟨a, c, xs, ts, h1, h2, h3⟩
theorem cI {n : Nat} {cs : List Value} {y : DataW H × List MemPlace} (h : DataW.trod enc Tryz.prog W 0 (fun _ => true) true n 34 cs = some y) : ∃ v0 : Option Addr, ∃ v1 : Nat, ∃ v2 : List Int, ∃ v3 : Option Addr, ∃ v4 : Nat, ∃ v5 : List Bool, ∃ v6 : Option Addr, ∃ v7 : Nat, ∃ v8 : List Int, ∃ v9 : Option Addr, ∃ v10 : Nat, ∃ v11 : List Ah, ∃ v12 : List TA, ∃ v13 : Int, cs = [Value.slice v0 v2.length v1, Value.slice v3 v5.length v4, Value.slice v6 v8.length v7, Value.slice v9 v11.length v10, Value.int .i64 v13] ∧ v2.length ≤ v1 ∧ Sl W eI 1 v0 v2 ∧ v5.length ≤ v4 ∧ Sl W eB 1 v3 v5 ∧ v8.length ≤ v7 ∧ Sl W eI 1 v6 v8 ∧ v11.length ≤ v10 ∧ Yz W Ef 8 DT v9 v11 v12 ∧ (-9223372036854775808 ≤ v13 ∧ v13 ≤ 9223372036854775807) := by
  obtain ⟨xs, m, _, _, hlen, hxl, hf⟩ := DataW.trod_struct underlying34 h
  have hc : cs.length = 5 := Eq.trans hlen z2
  have hxl2 : xs.length = 3 := by simpa using hxl
  have e0 := hf 0 _ rfl
  rw [List.getElem?_eq_getElem z3] at e0
  obtain ⟨v0_0, v0_1, v0_2, v0_3, v0_4, v0_5, v0_6, v0_7, v0_8, q0, f0_0, f0_1, f0_2, f0_3, f0_4, f0_5⟩ := AP2 e0
  have q02 : (cs.drop 0).take 3 = [.slice v0_0 v0_2.length v0_1, .slice v0_3 v0_5.length v0_4, .slice v0_6 v0_8.length v0_7] := Eq.trans (congrArg (fun k => (cs.drop 0).take k) (show 3 = Tryz.prog.cellsOf 31 by kernel_rfl)) q0
  have e1 := hf 1 _ rfl
  rw [List.getElem?_eq_getElem z3] at e1
  obtain ⟨v1_0, v1_1, v1_2, v1_3, q1, f1_0, f1_1⟩ := AP9 e1
  have q12 : (cs.drop 3).take 1 = [.slice v1_0 v1_2.length v1_1] := Eq.trans (congrArg (fun k => (cs.drop 3).take k) (show 1 = Tryz.prog.cellsOf 32 by kernel_rfl)) q1
  have e2 := hf 2 _ rfl
  rw [List.getElem?_eq_getElem z3] at e2
  obtain ⟨v2_0, q2, f2_0⟩ := Ii e2
  have q22 : (cs.drop 4).take 1 = [.int .i64 v2_0] := Eq.trans (congrArg (fun k => (cs.drop 4).take k) (show 1 = Tryz.prog.cellsOf 3 by kernel_rfl)) q2
  refine ⟨v0_0, v0_1, v0_2, v0_3, v0_4, v0_5, v0_6, v0_7, v0_8, v1_0, v1_1, v1_2, v1_3, v2_0, ?_, f0_0, f0_1, f0_2, f0_3, f0_4, f0_5, f1_0, f1_1, f2_0⟩
  have h0 : cs = cs.drop 0 := rfl
  rw [h0, Cm cs 0 3 3 rfl, q02, Cm cs 3 1 4 rfl, q12, Cm cs 4 1 5 rfl, q22, List.drop_of_length_le z3]
  rfl
end
end Go.Proofs.YtdnjanhdnibkfaaGreatDoor

namespace Go.Proofs.YtdnjanhdnibkfaaGreatDoor.Jd
open Go.Proofs.Tryz
open Go.Proofs
set_option maxRecDepth 100000
set_option linter.unusedVariables false
set_option linter.unusedSimpArgs false
theorem Wg (s : Session) (f : Frame) (r : Bk) (now : Int) : Wd s f r now (Aj s f r now) := by
  unfold Aj
  cases h1 : Fv s with
  | false => exact .badS h1
  | true =>
  rw [if_neg Ij]
  cases h2 : Dy f with
  | false => exact .badF h1 h2
  | true =>
  rw [if_neg Ij]
  have hr := (Fm s).1 h1
  by_cases p3 : s.phase = 3
  · rw [if_pos p3]; exact .dead hr h2 p3
  rw [if_neg p3]
  have hph := hr.phase
  by_cases k8 : f.kind = 8
  · have hp := Wd.ping (r := r) (now := now) hr h2 p3 k8
    by_cases p0 : s.phase = 0
    · rw [if_pos p0, if_pos k8]; exact hp
    rw [if_neg p0]
    by_cases p1 : s.phase = 1
    · rw [if_pos p1, if_pos k8]; exact hp
    rw [if_neg p1, if_pos k8]; exact hp
  by_cases p0 : s.phase = 0
  · rw [if_pos p0, if_neg k8]
    by_cases k1 : f.kind = 1
    · rw [if_pos k1]; exact .hello hr h2 p0 k1
    · rw [if_neg k1]; exact .dies hr h2 p3 k8 (fun h => by have := h.phase; omega) (fun h => by have := h.phase; omega)
  rw [if_neg p0]
  by_cases p1 : s.phase = 1
  · rw [if_pos p1, if_neg k8]
    have dies := fun hn => Wd.dies (s := s) (f := f) (r := r) (now := now) hr h2 p3 k8 hn (fun h => by have := h.phase; omega)
    by_cases k2 : f.kind = 2
    rotate_left
    · rw [if_neg k2]; exact dies fun h => k2 h.kind
    rw [if_pos k2]
    simp only [Iu]
    by_cases g1 : (Ce r s.name).2 = true
    rotate_left
    · rw [if_neg g1]; exact dies fun h => g1 h.found
    rw [if_pos g1]
    by_cases g2 : (Ce r s.name).1.state = 1
    rotate_left
    · rw [if_neg g2]; exact dies fun h => g2 h.state
    rw [if_pos g2, if_pos z3]
    cases g3 : (Nt (Ce r s.name).1.creds now (Ic s.a s.b).1 s.name f.data).2 with
    | false => rw [if_pos (by rfl)]; exact dies fun h => by have := h.check; rw [g3] at this; cases this
    | true => rw [if_neg Ij]; exact .ready hr h2 ⟨p1, k2, g1, g2, g3⟩
  rw [if_neg p1, if_neg k8]
  have p2 : s.phase = 2 := by omega
  have np : ¬ iC s f r now := fun h => p1 h.phase
  by_cases k3 : f.kind = 3
  · rw [if_pos k3]
    have ref := fun hm => Wd.refused (s := s) (f := f) (r := r) (now := now) hr h2 p2 z3 hm
    cases g0 : Dp s f.stream with
    | true => rw [if_pos rfl]; exact .dies hr h2 p3 k8 np (fun h => by have := h.has; rw [g0] at this; cases this)
    | false =>
    rw [if_neg Ij]
    simp only [Iu]
    by_cases g1 : (Ce r s.name).2 = true
    rotate_left
    · rw [if_neg g1]; exact ref fun h => g1 h.found
    rw [if_pos g1]
    by_cases g2 : (Ce r s.name).1.state = 1
    rotate_left
    · rw [if_neg g2]; exact ref fun h => g2 h.state
    rw [if_pos g2, if_neg z3]
    by_cases g3 : (Ce r s.name).1.handle.slot = s.handle.slot ∧ (Ce r s.name).1.handle.gen = s.handle.gen
    rotate_left
    · rw [if_neg g3]; exact ref fun h => g3 h.handle
    rw [if_pos g3]
    by_cases g4 : (Cs f.data).2 = 0
    rotate_left
    · rw [if_pos g4]; exact ref fun h => g4 h.target
    rw [if_neg (fun h => h g4)]
    by_cases g5 : (Ek (Ce r s.name).1.rules (Cs f.data).1).1 = true
    rotate_left
    · rw [if_neg g5]; exact ref fun h => g5 h.allows
    rw [if_pos g5]
    by_cases g6 : (Ek (Ce r s.name).1.rules (Cs f.data).1).2.2 = 0
    rotate_left
    · rw [if_pos g6]; exact ref fun h => g6 h.noerr
    rw [if_neg (fun h => h g6)]
    by_cases g7 : ((s.opn.length : Nat) : Int) < 8
    rotate_left
    · rw [if_pos g7]; exact ref fun h => g7 (by have := h.room; omega)
    rw [if_neg (fun h => h g7)]
    exact .opened hr h2 ⟨p2, k3, g0, g1, g2, g3, g4, g5, g6, by omega⟩
  rw [if_neg k3]
  have nm : ¬ yD s f r := fun h => k3 h.kind
  have ref := fun hk => Wd.refused (s := s) (f := f) (r := r) (now := now) hr h2 p2 hk nm
  by_cases k4 : f.kind = 4
  · rw [if_pos k4]
    cases g0 : Dp s f.stream with
    | false => exact ref z3
    | true => exact .asks hr h2 p2 z3 g0 (Act.mk 2 f.stream f.data 0 (Cd.mk 0 0)) (show (2 : Int) ≤ 2 ∧ (2 : Int) ≤ 4 by decide) rfl
  rw [if_neg k4]
  by_cases k5 : f.kind = 5
  · rw [if_pos k5]
    cases g0 : Dp s f.stream with
    | false => exact ref z3
    | true => exact .asks hr h2 p2 z3 g0 (Act.mk 3 f.stream ([] : An) (zO f.data) (Cd.mk 0 0)) (show (2 : Int) ≤ 3 ∧ (3 : Int) ≤ 4 by decide) rfl
  rw [if_neg k5]
  by_cases k6 : f.kind = 6
  · rw [if_pos k6]
    cases g0 : Dp s f.stream with
    | false => exact ref z3
    | true => exact .asks hr h2 p2 z3 g0 (Act.mk 4 f.stream ([] : An) 0 (Cd.mk 0 0)) (show (2 : Int) ≤ 4 ∧ (4 : Int) ≤ 4 by decide) rfl
  rw [if_neg k6]
  by_cases k7 : f.kind = 7
  · rw [if_pos k7]
    have e := eY s f.stream
    rw [h1, if_pos rfl] at e
    cases g0 : Dp s f.stream with
    | false =>
      rw [g0, if_neg Ij] at e
      rw [e, if_neg Ij]
      exact .gone hr h2 p2 k7 g0
    | true =>
      rw [g0, if_pos rfl] at e
      rw [e, if_pos rfl]
      exact .reset hr h2 p2 k7 g0
  · rw [if_neg k7]; exact .dies hr h2 p3 k8 np nm
end Go.Proofs.YtdnjanhdnibkfaaGreatDoor.Jd

