/- How what a law is handed is read. No condition. -/
import Derived.Test.YtofkflecgnmemaaRows
import Derived.Test.YtofkflecgnmemaaJ17
import Derived.ChangeMaps5
namespace Go.Proofs.Ytofkflecgnmemaa
open Go.Proofs Go.Proofs.Ytofkflecgnmemaa.Jd
open Go.ChangeShapes Go.WideShapes Go.ChangeAt Go.RowKit Go.ChangeMaps
set_option linter.unusedVariables false
set_option linter.unusedSimpArgs false
theorem laidOut : laidOutB Try.prog = true := by kernel_rfl
theorem own' : ownKnob Try.prog.godebug = none := by kernel_rfl
section
variable {H : Type} {enc : TypeId × Value → H} {W : World}
theorem open_22 {n : Nat} {cs : List Value} {y : DataW H × List MemPlace} (h : DataW.trod enc Try.prog W 0 (fun _ => true) true n 22 cs = some y) : ∃ v0 : Option Addr, ∃ v1 : Nat, ∃ v2 : List Int, cs = [Value.slice v0 v2.length v1] ∧ v2.length ≤ v1 ∧ Sl W eI 1 v0 v2 := by
  obtain ⟨a, c, xs, h1, h2, h3⟩ := open_sl (enc := eI) (k := 1) Try.underlying22 (by kernel_rfl) eI_ok (opens_int Try.underlying3) h
  exact ⟨a, c, xs, h1, h2, h3⟩
theorem open_23 {n : Nat} {cs : List Value} {y : DataW H × List MemPlace} (h : DataW.trod enc Try.prog W 0 (fun _ => true) true n 23 cs = some y) : ∃ v0 : Option Addr, ∃ v1 : Nat, ∃ v2 : List Bool, cs = [Value.slice v0 v2.length v1] ∧ v2.length ≤ v1 ∧ Sl W eB 1 v0 v2 := by
  obtain ⟨a, c, xs, h1, h2, h3⟩ := open_sl (enc := eB) (k := 1) Try.underlying23 (by kernel_rfl) eB_ok (opens_bool Try.underlying4) h
  exact ⟨a, c, xs, h1, h2, h3⟩
theorem open_25 {n : Nat} {cs : List Value} {y : DataW H × List MemPlace} (h : DataW.trod enc Try.prog W 0 (fun _ => true) true n 25 cs = some y) : ∃ v0 : Option Addr, ∃ v1 : Nat, ∃ v2 : List Int, ∃ v3 : Option Addr, ∃ v4 : Nat, ∃ v5 : List Bool, ∃ v6 : Option Addr, ∃ v7 : Nat, ∃ v8 : List Int, cs = [Value.slice v0 v2.length v1, Value.slice v3 v5.length v4, Value.slice v6 v8.length v7] ∧ v2.length ≤ v1 ∧ Sl W eI 1 v0 v2 ∧ v5.length ≤ v4 ∧ Sl W eB 1 v3 v5 ∧ v8.length ≤ v7 ∧ Sl W eI 1 v6 v8 := by
  obtain ⟨xs, m, _, _, hlen, hxl, hf⟩ := DataW.trod_struct Try.underlying25 h
  have hc : cs.length = 3 := Eq.trans hlen (by kernel_rfl)
  have hxl2 : xs.length = 3 := by simpa using hxl
  have e0 := hf 0 _ rfl
  rw [List.getElem?_eq_getElem (by omega)] at e0
  obtain ⟨v0_0, v0_1, v0_2, q0, f0_0, f0_1⟩ := open_22 e0
  have q02 : (cs.drop 0).take 1 = [.slice v0_0 v0_2.length v0_1] := (show (cs.drop 0).take (Try.prog.cellsOf 22) = _ from q0)
  have e1 := hf 1 _ rfl
  rw [List.getElem?_eq_getElem (by omega)] at e1
  obtain ⟨v1_0, v1_1, v1_2, q1, f1_0, f1_1⟩ := open_23 e1
  have q12 : (cs.drop 1).take 1 = [.slice v1_0 v1_2.length v1_1] := (show (cs.drop 1).take (Try.prog.cellsOf 23) = _ from q1)
  have e2 := hf 2 _ rfl
  rw [List.getElem?_eq_getElem (by omega)] at e2
  obtain ⟨v2_0, v2_1, v2_2, q2, f2_0, f2_1⟩ := open_22 e2
  have q22 : (cs.drop 2).take 1 = [.slice v2_0 v2_2.length v2_1] := (show (cs.drop 2).take (Try.prog.cellsOf 22) = _ from q2)
  refine ⟨v0_0, v0_1, v0_2, v1_0, v1_1, v1_2, v2_0, v2_1, v2_2, ?_, f0_0, f0_1, f1_0, f1_1, f2_0, f2_1⟩
  have h0 : cs = cs.drop 0 := rfl
  rw [h0, seg_split cs 0 1 1 rfl, q02, seg_split cs 1 1 2 rfl, q12, seg_split cs 2 1 3 rfl, q22, List.drop_of_length_le (by omega)]
  rfl
theorem open_3 {n : Nat} {cs : List Value} {y : DataW H × List MemPlace} (h : DataW.trod enc Try.prog W 0 (fun _ => true) true n 3 cs = some y) : ∃ v0 : Int, cs = [Value.int .i64 v0] ∧ (-9223372036854775808 ≤ v0 ∧ v0 ≤ 9223372036854775807) := by
  obtain ⟨m, h1, _, h3⟩ := DataW.trod_int Try.underlying3 h
  exact ⟨m, h1, lit_i64 h3⟩
theorem open_27 {n : Nat} {cs : List Value} {y : DataW H × List MemPlace} (h : DataW.trod enc Try.prog W 0 (fun _ => true) true n 27 cs = some y) : ∃ v0 : Int, ∃ v1 : Int, cs = [Value.int .i64 v0, Value.int .i64 v1] ∧ (-9223372036854775808 ≤ v0 ∧ v0 ≤ 9223372036854775807) ∧ (-9223372036854775808 ≤ v1 ∧ v1 ≤ 9223372036854775807) := by
  obtain ⟨xs, m, _, _, hlen, hxl, hf⟩ := DataW.trod_struct Try.underlying27 h
  have hc : cs.length = 2 := Eq.trans hlen (by kernel_rfl)
  have hxl2 : xs.length = 2 := by simpa using hxl
  have e0 := hf 0 _ rfl
  rw [List.getElem?_eq_getElem (by omega)] at e0
  obtain ⟨v0_0, q0, f0_0⟩ := open_3 e0
  have q02 : (cs.drop 0).take 1 = [.int .i64 v0_0] := (show (cs.drop 0).take (Try.prog.cellsOf 3) = _ from q0)
  have e1 := hf 1 _ rfl
  rw [List.getElem?_eq_getElem (by omega)] at e1
  obtain ⟨v1_0, q1, f1_0⟩ := open_3 e1
  have q12 : (cs.drop 1).take 1 = [.int .i64 v1_0] := (show (cs.drop 1).take (Try.prog.cellsOf 3) = _ from q1)
  refine ⟨v0_0, v1_0, ?_, f0_0, f1_0⟩
  have h0 : cs = cs.drop 0 := rfl
  rw [h0, seg_split cs 0 1 1 rfl, q02, seg_split cs 1 1 2 rfl, q12, List.drop_of_length_le (by omega)]
  rfl
end
end Go.Proofs.Ytofkflecgnmemaa
