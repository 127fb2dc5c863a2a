/- Part of the proofs of this seat: walks and plain facts. No condition. -/
import Derived.Test.YtopjaeoklkpcpaaGreatDoorP0
import Derived.Test.YtopjaeoklkpcpaaGreatDoorRows
import Derived.ChangeMaps5
import Derived.Test.YtopjaeoklkpcpaaGreatDoorProg
import Derived.Test.YtopjaeoklkpcpaaGreatDoorP5
import Derived.Test.YtopjaeoklkpcpaaGreatDoorP2
import Derived.Test.YtopjaeoklkpcpaaGreatDoorP1
import Derived.Test.YtopjaeoklkpcpaaGreatDoorP3
import Derived.Test.YtopjaeoklkpcpaaGreatDoorP4
namespace Go.Proofs.YtopjaeoklkpcpaaGreatDoor.Jd
open Go.Proofs
open Go.RowKit (Below)
set_option maxRecDepth 100000
set_option linter.unusedVariables false
set_option linter.unusedSimpArgs false
def pMeet (p : PortsT) (q : PortsT) : PortsT × Bool := (if (!(pRight p)) = true then ((PortsT.mk 0 0), false) else (if (!(pRight q)) = true then ((PortsT.mk 0 0), false) else (if (!(pRight (PortsT.mk (if p.lo < q.lo then q.lo else p.lo) (if q.hi < p.hi then q.hi else p.hi)))) = true then ((PortsT.mk 0 0), false) else ((PortsT.mk (if p.lo < q.lo then q.lo else p.lo) (if q.hi < p.hi then q.hi else p.hi)), true))))
end Go.Proofs.YtopjaeoklkpcpaaGreatDoor.Jd

namespace Go.Proofs.YtopjaeoklkpcpaaGreatDoor.Jd
set_option linter.unusedVariables false
set_option linter.unusedSimpArgs false
theorem q7 : pMeet ⟨80, 90⟩ ⟨0, 65535⟩ = (⟨80, 90⟩, true) := by kernel_rfl
end Go.Proofs.YtopjaeoklkpcpaaGreatDoor.Jd

namespace Go.Proofs.YtopjaeoklkpcpaaGreatDoor
open Go.Proofs Go.Proofs.YtopjaeoklkpcpaaGreatDoor.Jd
open Go.ChangeShapes Go.WideShapes Go.ChangeAt Go.RowKit Go.ChangeMaps
set_option maxRecDepth 100000
set_option linter.unusedVariables false
set_option linter.unusedSimpArgs false
section
variable {H : Type} {enc : TypeId × Value → H} {W : World}
theorem open_36 {n : Nat} {cs : List Value} {y : DataW H × List MemPlace} (h : DataW.trod enc Tryz.prog W 0 (fun _ => true) true n 36 cs = some y) : ∃ v0 : Int, ∃ v1 : Str, ∃ v2 : Int, ∃ v3 : Int, ∃ v4 : Bool, ∃ v5 : Int, ∃ v6 : Int, ∃ v7 : Int, ∃ v8 : Int, ∃ v9 : Str, ∃ v10 : Int, ∃ v11 : Int, cs = [Value.int .i64 v0, Value.string (bs v1), Value.int .i64 v2, Value.int .i64 v3, Value.bool v4, Value.int .i64 v5, Value.int .i64 v6, Value.int .i64 v7, Value.int .i64 v8, Value.string (bs v9), Value.int .i64 v10, Value.int .i64 v11] ∧ (-9223372036854775808 ≤ v0 ∧ v0 ≤ 9223372036854775807) ∧ (-9223372036854775808 ≤ v2 ∧ v2 ≤ 9223372036854775807) ∧ (-9223372036854775808 ≤ v3 ∧ v3 ≤ 9223372036854775807) ∧ (-9223372036854775808 ≤ v5 ∧ v5 ≤ 9223372036854775807) ∧ (-9223372036854775808 ≤ v6 ∧ v6 ≤ 9223372036854775807) ∧ (-9223372036854775808 ≤ v7 ∧ v7 ≤ 9223372036854775807) ∧ (-9223372036854775808 ≤ v8 ∧ v8 ≤ 9223372036854775807) ∧ (-9223372036854775808 ≤ v10 ∧ v10 ≤ 9223372036854775807) ∧ (-9223372036854775808 ≤ v11 ∧ v11 ≤ 9223372036854775807) := by
  obtain ⟨xs, m, _, _, hlen, hxl, hf⟩ := DataW.trod_struct Tryz.underlying36 h
  have hc : cs.length = 12 := Eq.trans hlen (by kernel_rfl)
  have hxl2 : xs.length = 8 := by simpa using hxl
  have e0 := hf 0 _ rfl
  rw [List.getElem?_eq_getElem (by omega)] at e0
  obtain ⟨v0_0, q0, f0_0⟩ := open_3 e0
  have q02 : (cs.drop 0).take 1 = [.int .i64 v0_0] := Eq.trans (congrArg (fun k => (cs.drop 0).take k) (show 1 = Tryz.prog.cellsOf 3 by kernel_rfl)) q0
  have e1 := hf 1 _ rfl
  rw [List.getElem?_eq_getElem (by omega)] at e1
  obtain ⟨v1_0, q1⟩ := open_9 e1
  have q12 : (cs.drop 1).take 1 = [.string (bs v1_0)] := Eq.trans (congrArg (fun k => (cs.drop 1).take k) (show 1 = Tryz.prog.cellsOf 9 by kernel_rfl)) q1
  have e2 := hf 2 _ rfl
  rw [List.getElem?_eq_getElem (by omega)] at e2
  obtain ⟨v2_0, q2, f2_0⟩ := open_3 e2
  have q22 : (cs.drop 2).take 1 = [.int .i64 v2_0] := Eq.trans (congrArg (fun k => (cs.drop 2).take k) (show 1 = Tryz.prog.cellsOf 3 by kernel_rfl)) q2
  have e3 := hf 3 _ rfl
  rw [List.getElem?_eq_getElem (by omega)] at e3
  obtain ⟨v3_0, q3, f3_0⟩ := open_3 e3
  have q32 : (cs.drop 3).take 1 = [.int .i64 v3_0] := Eq.trans (congrArg (fun k => (cs.drop 3).take k) (show 1 = Tryz.prog.cellsOf 3 by kernel_rfl)) q3
  have e4 := hf 4 _ rfl
  rw [List.getElem?_eq_getElem (by omega)] at e4
  obtain ⟨v4_0, v4_1, v4_2, v4_3, v4_4, q4, f4_0, f4_1, f4_2, f4_3⟩ := open_34 e4
  have q42 : (cs.drop 4).take 5 = [.bool v4_0, .int .i64 v4_1, .int .i64 v4_2, .int .i64 v4_3, .int .i64 v4_4] := Eq.trans (congrArg (fun k => (cs.drop 4).take k) (show 5 = Tryz.prog.cellsOf 34 by kernel_rfl)) q4
  have e5 := hf 5 _ rfl
  rw [List.getElem?_eq_getElem (by omega)] at e5
  obtain ⟨v5_0, q5⟩ := open_9 e5
  have q52 : (cs.drop 9).take 1 = [.string (bs v5_0)] := Eq.trans (congrArg (fun k => (cs.drop 9).take k) (show 1 = Tryz.prog.cellsOf 9 by kernel_rfl)) q5
  have e6 := hf 6 _ rfl
  rw [List.getElem?_eq_getElem (by omega)] at e6
  obtain ⟨v6_0, q6, f6_0⟩ := open_3 e6
  have q62 : (cs.drop 10).take 1 = [.int .i64 v6_0] := Eq.trans (congrArg (fun k => (cs.drop 10).take k) (show 1 = Tryz.prog.cellsOf 3 by kernel_rfl)) q6
  have e7 := hf 7 _ rfl
  rw [List.getElem?_eq_getElem (by omega)] at e7
  obtain ⟨v7_0, q7, f7_0⟩ := open_3 e7
  have q72 : (cs.drop 11).take 1 = [.int .i64 v7_0] := Eq.trans (congrArg (fun k => (cs.drop 11).take k) (show 1 = Tryz.prog.cellsOf 3 by kernel_rfl)) q7
  refine ⟨v0_0, v1_0, v2_0, v3_0, v4_0, v4_1, v4_2, v4_3, v4_4, v5_0, v6_0, v7_0, ?_, f0_0, f2_0, f3_0, f4_0, f4_1, f4_2, f4_3, f6_0, f7_0⟩
  have h0 : cs = cs.drop 0 := rfl
  rw [h0, seg_split cs 0 1 1 rfl, q02, seg_split cs 1 1 2 rfl, q12, seg_split cs 2 1 3 rfl, q22, seg_split cs 3 1 4 rfl, q32, seg_split cs 4 5 9 rfl, q42, seg_split cs 9 1 10 rfl, q52, seg_split cs 10 1 11 rfl, q62, seg_split cs 11 1 12 rfl, q72, List.drop_of_length_le (by omega)]
  rfl
end
end Go.Proofs.YtopjaeoklkpcpaaGreatDoor

namespace Go.Proofs.YtopjaeoklkpcpaaGreatDoor.Jd
open Go.Proofs
open Go.RowKit (Below)
set_option maxRecDepth 100000
set_option maxHeartbeats 8000000
set_option linter.unusedVariables false
set_option linter.unusedSimpArgs false
def gCutC (c : Command) : Command := (Command.mk c.verb (c.name.take (min c.name.length 41)) c.want c.at_ c.rule (c.key.take (min c.key.length 65)) c.n c.m)
end Go.Proofs.YtopjaeoklkpcpaaGreatDoor.Jd

namespace Go.Proofs.YtopjaeoklkpcpaaGreatDoor.Jd
open Go.Proofs
open Go.RowKit (Below)
set_option maxRecDepth 100000
set_option maxHeartbeats 8000000
set_option linter.unusedVariables false
set_option linter.unusedSimpArgs false

theorem gCutC_ok (w : World) {c : Command} : Val Tryz.prog 16 [(Value.agg [(vi c.verb), (vt c.name), (vi c.want), (vi c.at_), (Value.bool c.rule.allow), (vi c.rule.pfx.addr), (vi c.rule.pfx.bits), (vi c.rule.prt.lo), (vi c.rule.prt.hi), (vt c.key), (vi c.n), (vi c.m)].toArray)] w (Value.agg [(vi ((gCutC c).verb)), (vt ((gCutC c).name)), (vi ((gCutC c).want)), (vi ((gCutC c).at_)), (Value.bool ((gCutC c).rule.allow)), (vi ((gCutC c).rule.pfx.addr)), (vi ((gCutC c).rule.pfx.bits)), (vi ((gCutC c).rule.prt.lo)), (vi ((gCutC c).rule.prt.hi)), (vt ((gCutC c).key)), (vi ((gCutC c).n)), (vi ((gCutC c).m))].toArray) := by
 have hF := Is.refl (gCutC c)
 refine enter Tryz.func16 Tryz.ntmps16 (h := ?_)
 refine Z2 ?_
 refine JL_a noMk (a_box (l := [_, _, _, _, _, _, _, _, _, _, _, _])) (k := fun r1 hr1 => ?_)
 refine JL_a noMk (a_alloc (l := [_, _, _, _, _, _, _, _, _, _, _, _]) Tryz.zeroValue36) (k := fun r2 hr2 => ?_)
 refine Z320 ?_
 refine Z84 ?_
 refine Z84 ?_
 refine Z236 ?_
 refine JL_q (q_subThi (s := c.name) (min c.name.length 41) Tryz.runUnderlying9 (by omega) (hj := by split <;> omega)) (k := ?_)
 have hsb1 : (c.name.take (min c.name.length 41)).length = (min c.name.length 41) := by first | omega | (simp only [List.length_take, List.length_drop, List.length_cons, List.length_nil] <;> omega)
 refine JL_q (q_fld FO_36_1) (k := ?_)
 refine JL_s (w_store (l' := [_, _, _, _, _, _, _, _, _, _, _, _]) Tryz.sizeOf9) (k := ?_)
 refine Z320 ?_
 refine Z383 ?_
 refine Z383 ?_
 refine Z236 ?_
 refine JL_q (q_subThi (s := c.key) (min c.key.length 65) Tryz.runUnderlying9 (by omega) (hj := by split <;> omega)) (k := ?_)
 have hsb2 : (c.key.take (min c.key.length 65)).length = (min c.key.length 65) := by first | omega | (simp only [List.length_take, List.length_drop, List.length_cons, List.length_nil] <;> omega)
 refine JL_q (q_fld FO_36_5) (k := ?_)
 refine JL_s (w_store (l' := [_, _, _, _, _, _, _, _, _, _, _, _]) Tryz.sizeOf9) (k := ?_)
 refine Z0 ?_
 refine Z225 ?_
 refine JL_s (w_store (l' := [_, _, _, _, _, _, _, _, _, _, _, _]) Tryz.sizeOf36) (k := ?_)
 refine Z44 ?_
 refine JX_ret Tryz.results16 (Res.agg Tryz.isAgg36 Tryz.sizeOf36 rfl me rfl Res.nil) (fun w1 hw1 => ?_)
 exact ⟨(by rw [hF.eq] <;> first | rfl | (simp only [List.length_set] <;> rfl)), hw1.ext_out⟩

end Go.Proofs.YtopjaeoklkpcpaaGreatDoor.Jd

