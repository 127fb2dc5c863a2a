/- How what a law is handed is read. No condition. -/
import Derived.Test.YtcmondhpiahchaaGreatDoorRows
import Derived.Test.YtcmondhpiahchaaGreatDoorJ21
import Derived.ChangeMaps5
import Derived.Test.YtcmondhpiahchaaGreatDoorJCH
import Derived.Test.YtcmondhpiahchaaGreatDoorJCE
import Derived.Test.YtcmondhpiahchaaGreatDoorJLW
namespace Go.Proofs.YtcmondhpiahchaaGreatDoor
open Go.Proofs Go.Proofs.YtcmondhpiahchaaGreatDoor.Jd
open Go.ChangeShapes Go.WideShapes Go.ChangeAt Go.RowKit Go.ChangeMaps
set_option maxRecDepth 100000
set_option linter.unusedVariables false
set_option linter.unusedSimpArgs false
theorem laidOut : laidOutB Tryz.prog = true := by kernel_rfl
theorem own' : ownKnob Tryz.prog.godebug = none := by kernel_rfl
section
variable {H : Type} {enc : TypeId × Value → H} {W : World}
theorem open_3 {n : Nat} {cs : List Value} {y : DataW H × List MemPlace} (h : DataW.trod enc Tryz.prog W 0 (fun _ => true) true n 3 cs = some y) : ∃ v0 : Int, cs = [Value.int .i64 v0] ∧ (-9223372036854775808 ≤ v0 ∧ v0 ≤ 9223372036854775807) := by
  obtain ⟨m, h1, _, h3⟩ := DataW.trod_int Tryz.underlying3 h
  exact ⟨m, h1, lit_i64 h3⟩
theorem open_9 {n : Nat} {cs : List Value} {y : DataW H × List MemPlace} (h : DataW.trod enc Tryz.prog W 0 (fun _ => true) true n 9 cs = some y) : ∃ v0 : Str, cs = [Value.string (bs v0)] := by
  obtain ⟨s, h1, _⟩ := DataW.trod_string Tryz.underlying9 h
  exact ⟨s.data.toList, by rw [← bs_of s]; exact h1⟩
theorem open_37 {n : Nat} {cs : List Value} {y : DataW H × List MemPlace} (h : DataW.trod enc Tryz.prog W 0 (fun _ => true) true n 37 cs = some y) : ∃ v0 : Int, ∃ v1 : Str, ∃ v2 : Int, ∃ v3 : Int, cs = [Value.int .i64 v0, Value.string (bs v1), Value.int .i64 v2, Value.int .i64 v3] ∧ (-9223372036854775808 ≤ v0 ∧ v0 ≤ 9223372036854775807) ∧ (-9223372036854775808 ≤ v2 ∧ v2 ≤ 9223372036854775807) ∧ (-9223372036854775808 ≤ v3 ∧ v3 ≤ 9223372036854775807) := by
  obtain ⟨xs, m, _, _, hlen, hxl, hf⟩ := DataW.trod_struct Tryz.underlying37 h
  have hc : cs.length = 4 := Eq.trans hlen (by kernel_rfl)
  have hxl2 : xs.length = 4 := by simpa using hxl
  have e0 := hf 0 _ rfl
  rw [List.getElem?_eq_getElem (by omega)] at e0
  obtain ⟨v0_0, q0, f0_0⟩ := open_3 e0
  have q02 : (cs.drop 0).take 1 = [.int .i64 v0_0] := Eq.trans (congrArg (fun k => (cs.drop 0).take k) (show 1 = Tryz.prog.cellsOf 3 by kernel_rfl)) q0
  have e1 := hf 1 _ rfl
  rw [List.getElem?_eq_getElem (by omega)] at e1
  obtain ⟨v1_0, q1⟩ := open_9 e1
  have q12 : (cs.drop 1).take 1 = [.string (bs v1_0)] := Eq.trans (congrArg (fun k => (cs.drop 1).take k) (show 1 = Tryz.prog.cellsOf 9 by kernel_rfl)) q1
  have e2 := hf 2 _ rfl
  rw [List.getElem?_eq_getElem (by omega)] at e2
  obtain ⟨v2_0, q2, f2_0⟩ := open_3 e2
  have q22 : (cs.drop 2).take 1 = [.int .i64 v2_0] := Eq.trans (congrArg (fun k => (cs.drop 2).take k) (show 1 = Tryz.prog.cellsOf 3 by kernel_rfl)) q2
  have e3 := hf 3 _ rfl
  rw [List.getElem?_eq_getElem (by omega)] at e3
  obtain ⟨v3_0, q3, f3_0⟩ := open_3 e3
  have q32 : (cs.drop 3).take 1 = [.int .i64 v3_0] := Eq.trans (congrArg (fun k => (cs.drop 3).take k) (show 1 = Tryz.prog.cellsOf 3 by kernel_rfl)) q3
  refine ⟨v0_0, v1_0, v2_0, v3_0, ?_, f0_0, f2_0, f3_0⟩
  have h0 : cs = cs.drop 0 := rfl
  rw [h0, seg_split cs 0 1 1 rfl, q02, seg_split cs 1 1 2 rfl, q12, seg_split cs 2 1 3 rfl, q22, seg_split cs 3 1 4 rfl, q32, List.drop_of_length_le (by omega)]
  rfl
theorem open_22 {n : Nat} {cs : List Value} {y : DataW H × List MemPlace} (h : DataW.trod enc Tryz.prog W 0 (fun _ => true) true n 22 cs = some y) : ∃ v0 : Option Addr, ∃ v1 : Nat, ∃ v2 : List Cred, cs = [Value.slice v0 v2.length v1] ∧ v2.length ≤ v1 ∧ Sl W eCred 4 v0 v2 := by
  obtain ⟨a, c, xs, h1, h2, h3⟩ := open_sl (enc := eCred) (k := 4) Tryz.underlying22 (by kernel_rfl) eCred_ok (fun n cs y h => by obtain ⟨v0, v1, v2, v3, rfl, _, _, _⟩ := open_37 h; exact ⟨(Cred.mk v0 v1 v2 v3), rfl⟩) h
  exact ⟨a, c, xs, h1, h2, h3⟩
end
def laidD : List (String × DataW Unit) := [("math/bits.deBruijn32tab", Rows.laid_math_bits_deBruijn32tab), ("math/bits.deBruijn64tab", Rows.laid_math_bits_deBruijn64tab), ("internal/strconv.uint64pow10", Rows.laid_internal_strconv_uint64pow10), ("wicketgate/sha.constants", Rows.laid_wicketgate_sha_constants), ("wicketgate/mac.errKey", Rows.laid_wicketgate_mac_errKey), ("wicketgate/mac.errArg", Rows.laid_wicketgate_mac_errArg)]
noncomputable def laidW0 (os : Os) : World := { World.holding Tryz.prog os ⟨#[], #[], []⟩ with heap := ((World.holding Tryz.prog os ⟨#[], #[], []⟩).heap.modify 2 fun
      | .cells _ t frozen => .cells #[.iface 136 (.agg #[.pointer (some ⟨8, 47, none⟩)])] t frozen
      | o => o) }
/-- A world for the witness: each listed variable holds what its initialiser lays. -/
noncomputable def laidWorld (os : Os) : World := (laidW0 os).layVars Tryz.prog laidD
theorem ern0 : Tryz.prog.globalNamed "wicketgate/mac.errArg" = some 0 := by kernel_rfl
theorem ert0 : (Tryz.prog.globals[0]?).map (·.type) = some 47 := by kernel_rfl
theorem ern1 : Tryz.prog.globalNamed "wicketgate/mac.errKey" = some 1 := by kernel_rfl
theorem ert1 : (Tryz.prog.globals[1]?).map (·.type) = some 47 := by kernel_rfl
theorem er_star : "*" ++ "errors.errorString" = "*errors.errorString" := by decide
theorem er_row (u : TypeId) (h : Tryz.prog.typeName? 3 u = some "*errors.errorString") : u = 174 :=
  typeName_ptr_named (nm := "errors.errorString") (by rw [er_star]; kernel_rfl) (by kernel_rfl) (by decide) u (by rw [er_star]; exact h)

theorem er_c1 : Tryz.prog.cellsOf 193 = 1 := by kernel_rfl
theorem er_c2 : Tryz.prog.cellsOf 9 = 1 := by kernel_rfl
end Go.Proofs.YtcmondhpiahchaaGreatDoor
