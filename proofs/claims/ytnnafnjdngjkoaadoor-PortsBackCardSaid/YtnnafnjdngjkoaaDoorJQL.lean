/- How what a law is handed is read. No condition. -/
import Derived.Test.YtnnafnjdngjkoaaDoorRows
import Derived.Test.YtnnafnjdngjkoaaDoorJ18
import Derived.ChangeMaps5
import Derived.Test.YtnnafnjdngjkoaaDoorJER
import Derived.Lay
namespace Go.Proofs.YtnnafnjdngjkoaaDoor
open Go.Proofs Go.Proofs.YtnnafnjdngjkoaaDoor.Jd
open Go.ChangeShapes Go.WideShapes Go.ChangeAt Go.RowKit Go.ChangeMaps
set_option maxRecDepth 100000
set_option linter.unusedVariables false
set_option linter.unusedSimpArgs false
theorem laidOut : laidOutB Tryd.prog = true := by kernel_rfl
theorem own' : ownKnob Tryd.prog.godebug = none := by kernel_rfl
section
variable {H : Type} {enc : TypeId × Value → H} {W : World}
theorem open_3 {n : Nat} {cs : List Value} {y : DataW H × List MemPlace} (h : DataW.trod enc Tryd.prog W 0 (fun _ => true) true n 3 cs = some y) : ∃ v0 : Int, cs = [Value.int .i64 v0] ∧ (-9223372036854775808 ≤ v0 ∧ v0 ≤ 9223372036854775807) := by
  obtain ⟨m, h1, _, h3⟩ := DataW.trod_int Tryd.underlying3 h
  exact ⟨m, h1, lit_i64 h3⟩
theorem open_23 {n : Nat} {cs : List Value} {y : DataW H × List MemPlace} (h : DataW.trod enc Tryd.prog W 0 (fun _ => true) true n 23 cs = some y) : ∃ v0 : Int, ∃ v1 : Int, cs = [Value.int .i64 v0, Value.int .i64 v1] ∧ (-9223372036854775808 ≤ v0 ∧ v0 ≤ 9223372036854775807) ∧ (-9223372036854775808 ≤ v1 ∧ v1 ≤ 9223372036854775807) := by
  obtain ⟨xs, m, _, _, hlen, hxl, hf⟩ := DataW.trod_struct Tryd.underlying23 h
  have hc : cs.length = 2 := Eq.trans hlen (by kernel_rfl)
  have hxl2 : xs.length = 2 := by simpa using hxl
  have e0 := hf 0 _ rfl
  rw [List.getElem?_eq_getElem (by omega)] at e0
  obtain ⟨v0_0, q0, f0_0⟩ := open_3 e0
  have q02 : (cs.drop 0).take 1 = [.int .i64 v0_0] := Eq.trans (congrArg (fun k => (cs.drop 0).take k) (show 1 = Tryd.prog.cellsOf 3 by kernel_rfl)) q0
  have e1 := hf 1 _ rfl
  rw [List.getElem?_eq_getElem (by omega)] at e1
  obtain ⟨v1_0, q1, f1_0⟩ := open_3 e1
  have q12 : (cs.drop 1).take 1 = [.int .i64 v1_0] := Eq.trans (congrArg (fun k => (cs.drop 1).take k) (show 1 = Tryd.prog.cellsOf 3 by kernel_rfl)) q1
  refine ⟨v0_0, v1_0, ?_, f0_0, f1_0⟩
  have h0 : cs = cs.drop 0 := rfl
  rw [h0, seg_split cs 0 1 1 rfl, q02, seg_split cs 1 1 2 rfl, q12, List.drop_of_length_le (by omega)]
  rfl
theorem open_37 {n : Nat} {cs : List Value} {y : DataW H × List MemPlace} (h : DataW.trod enc Tryd.prog W 0 (fun _ => true) true n 37 cs = some y) : ∃ v0 : Int, ∃ v1 : Int, cs = [Value.int .i64 v0, Value.int .i64 v1] ∧ (-9223372036854775808 ≤ v0 ∧ v0 ≤ 9223372036854775807) ∧ (-9223372036854775808 ≤ v1 ∧ v1 ≤ 9223372036854775807) := by
  obtain ⟨xs, m, _, _, hlen, hxl, hf⟩ := DataW.trod_struct Tryd.underlying37 h
  have hc : cs.length = 2 := Eq.trans hlen (by kernel_rfl)
  have hxl2 : xs.length = 2 := by simpa using hxl
  have e0 := hf 0 _ rfl
  rw [List.getElem?_eq_getElem (by omega)] at e0
  obtain ⟨v0_0, q0, f0_0⟩ := open_3 e0
  have q02 : (cs.drop 0).take 1 = [.int .i64 v0_0] := Eq.trans (congrArg (fun k => (cs.drop 0).take k) (show 1 = Tryd.prog.cellsOf 3 by kernel_rfl)) q0
  have e1 := hf 1 _ rfl
  rw [List.getElem?_eq_getElem (by omega)] at e1
  obtain ⟨v1_0, q1, f1_0⟩ := open_3 e1
  have q12 : (cs.drop 1).take 1 = [.int .i64 v1_0] := Eq.trans (congrArg (fun k => (cs.drop 1).take k) (show 1 = Tryd.prog.cellsOf 3 by kernel_rfl)) q1
  refine ⟨v0_0, v1_0, ?_, f0_0, f1_0⟩
  have h0 : cs = cs.drop 0 := rfl
  rw [h0, seg_split cs 0 1 1 rfl, q02, seg_split cs 1 1 2 rfl, q12, List.drop_of_length_le (by omega)]
  rfl
end
/-- A world for the witness: each listed variable holds what its initialiser lays. -/
noncomputable def laidWorld (os : Os) : World := World.laidAll Tryd.prog os Rows.portsTextsRow.laid
theorem ern0 : Tryd.prog.globalNamed "wicketgate/ports.errPorts" = some 0 := by kernel_rfl
theorem ert0 : (Tryd.prog.globals[0]?).map (·.type) = some 46 := by kernel_rfl
theorem ern1 : Tryd.prog.globalNamed "wicketgate/ports.errTarget" = some 1 := by kernel_rfl
theorem ert1 : (Tryd.prog.globals[1]?).map (·.type) = some 46 := by kernel_rfl
theorem er_star : "*" ++ "errors.errorString" = "*errors.errorString" := by decide
theorem er_row (u : TypeId) (h : Tryd.prog.typeName? 3 u = some "*errors.errorString") : u = 135 :=
  typeName_ptr_named (nm := "errors.errorString") (by rw [er_star]; kernel_rfl) (by kernel_rfl) (by decide) u (by rw [er_star]; exact h)

theorem er_c1 : Tryd.prog.cellsOf 157 = 1 := by kernel_rfl
theorem er_c2 : Tryd.prog.cellsOf 9 = 1 := by kernel_rfl
end Go.Proofs.YtnnafnjdngjkoaaDoor
