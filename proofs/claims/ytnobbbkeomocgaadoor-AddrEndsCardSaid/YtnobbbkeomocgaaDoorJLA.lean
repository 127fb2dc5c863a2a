/- How what a law is handed is read. No condition. -/
import Derived.Test.YtnobbbkeomocgaaDoorRows
import Derived.Test.YtnobbbkeomocgaaDoorJ16
import Derived.ChangeMaps5
namespace Go.Proofs.YtnobbbkeomocgaaDoor
open Go.Proofs Go.Proofs.YtnobbbkeomocgaaDoor.Jd
open Go.ChangeShapes Go.WideShapes Go.ChangeAt Go.RowKit Go.ChangeMaps
set_option linter.unusedVariables false
set_option linter.unusedSimpArgs false
theorem laidOut : laidOutB Tryd.prog = true := by kernel_rfl
theorem own' : ownKnob Tryd.prog.godebug = none := by kernel_rfl
section
variable {H : Type} {enc : TypeId × Value → H} {W : World}
theorem open_3 {n : Nat} {cs : List Value} {y : DataW H × List MemPlace} (h : DataW.trod enc Tryd.prog W 0 (fun _ => true) true n 3 cs = some y) : ∃ v0 : Int, cs = [Value.int .i64 v0] ∧ (-9223372036854775808 ≤ v0 ∧ v0 ≤ 9223372036854775807) := by
  obtain ⟨m, h1, _, h3⟩ := DataW.trod_int Tryd.underlying3 h
  exact ⟨m, h1, lit_i64 h3⟩
theorem open_23 {n : Nat} {cs : List Value} {y : DataW H × List MemPlace} (h : DataW.trod enc Tryd.prog W 0 (fun _ => true) true n 23 cs = some y) : ∃ v0 : Int, ∃ v1 : Int, cs = [Value.int .i64 v0, Value.int .i64 v1] ∧ (-9223372036854775808 ≤ v0 ∧ v0 ≤ 9223372036854775807) ∧ (-9223372036854775808 ≤ v1 ∧ v1 ≤ 9223372036854775807) := by
  obtain ⟨xs, m, _, _, hlen, hxl, hf⟩ := DataW.trod_struct Tryd.underlying23 h
  have hc : cs.length = 2 := Eq.trans hlen (by kernel_rfl)
  have hxl2 : xs.length = 2 := by simpa using hxl
  have e0 := hf 0 _ rfl
  rw [List.getElem?_eq_getElem (by omega)] at e0
  obtain ⟨v0_0, q0, f0_0⟩ := open_3 e0
  have q02 : (cs.drop 0).take 1 = [.int .i64 v0_0] := (show (cs.drop 0).take (Tryd.prog.cellsOf 3) = _ from q0)
  have e1 := hf 1 _ rfl
  rw [List.getElem?_eq_getElem (by omega)] at e1
  obtain ⟨v1_0, q1, f1_0⟩ := open_3 e1
  have q12 : (cs.drop 1).take 1 = [.int .i64 v1_0] := (show (cs.drop 1).take (Tryd.prog.cellsOf 3) = _ from q1)
  refine ⟨v0_0, v1_0, ?_, f0_0, f1_0⟩
  have h0 : cs = cs.drop 0 := rfl
  rw [h0, seg_split cs 0 1 1 rfl, q02, seg_split cs 1 1 2 rfl, q12, List.drop_of_length_le (by omega)]
  rfl
end
/-- A world for the witness: each listed variable holds what its initialiser lays. -/
noncomputable def laidWorld (os : Os) : World := { World.holding Tryd.prog os ⟨#[], #[], []⟩ with heap := ((((World.holding Tryd.prog os ⟨#[], #[], []⟩).heap.modify 2 fun
      | .cells _ t frozen => .cells #[.int .u8 0, .int .u8 1, .int .u8 28, .int .u8 2, .int .u8 29, .int .u8 14, .int .u8 24, .int .u8 3, .int .u8 30, .int .u8 22, .int .u8 20, .int .u8 15, .int .u8 25, .int .u8 17, .int .u8 4, .int .u8 8, .int .u8 31, .int .u8 27, .int .u8 13, .int .u8 23, .int .u8 21, .int .u8 19, .int .u8 16, .int .u8 7, .int .u8 26, .int .u8 12, .int .u8 18, .int .u8 6, .int .u8 11, .int .u8 5, .int .u8 10, .int .u8 9] t frozen
      | o => o).modify 3 fun
      | .cells _ t frozen => .cells #[.int .u8 0, .int .u8 1, .int .u8 56, .int .u8 2, .int .u8 57, .int .u8 49, .int .u8 28, .int .u8 3, .int .u8 61, .int .u8 58, .int .u8 42, .int .u8 50, .int .u8 38, .int .u8 29, .int .u8 17, .int .u8 4, .int .u8 62, .int .u8 47, .int .u8 59, .int .u8 36, .int .u8 45, .int .u8 43, .int .u8 51, .int .u8 22, .int .u8 53, .int .u8 39, .int .u8 33, .int .u8 30, .int .u8 24, .int .u8 18, .int .u8 12, .int .u8 5, .int .u8 63, .int .u8 55, .int .u8 48, .int .u8 27, .int .u8 60, .int .u8 41, .int .u8 37, .int .u8 16, .int .u8 46, .int .u8 35, .int .u8 44, .int .u8 21, .int .u8 52, .int .u8 32, .int .u8 23, .int .u8 11, .int .u8 54, .int .u8 26, .int .u8 40, .int .u8 15, .int .u8 34, .int .u8 20, .int .u8 31, .int .u8 10, .int .u8 25, .int .u8 14, .int .u8 19, .int .u8 9, .int .u8 13, .int .u8 8, .int .u8 7, .int .u8 6] t frozen
      | o => o).modify 1 fun
      | .cells _ t frozen => .cells #[.int .u64 1, .int .u64 10, .int .u64 100, .int .u64 1000, .int .u64 10000, .int .u64 100000, .int .u64 1000000, .int .u64 10000000, .int .u64 100000000, .int .u64 1000000000, .int .u64 10000000000, .int .u64 100000000000, .int .u64 1000000000000, .int .u64 10000000000000, .int .u64 100000000000000, .int .u64 1000000000000000, .int .u64 10000000000000000, .int .u64 100000000000000000, .int .u64 1000000000000000000, .int .u64 10000000000000000000] t frozen
      | o => o) }
end Go.Proofs.YtnobbbkeomocgaaDoor
