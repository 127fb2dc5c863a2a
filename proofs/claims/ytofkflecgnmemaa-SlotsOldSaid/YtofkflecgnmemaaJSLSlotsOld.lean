/- The law 'SlotsOld' is proved here. Its conditions: none. -/
import Derived.Test.YtofkflecgnmemaaRows
import Derived.Test.YtofkflecgnmemaaJSL
import Derived.Test.YtofkflecgnmemaaJSF
import Derived.Test.YtofkflecgnmemaaJSI
import Derived.Test.YtofkflecgnmemaaJSR
import Derived.Test.YtofkflecgnmemaaJST
namespace Go.Proofs.Ytofkflecgnmemaa
open Go.Proofs Go.Proofs.Ytofkflecgnmemaa.Jd
open Go.ChangeShapes Go.WideShapes Go.ChangeAt Go.RowKit Go.ChangeMaps
set_option linter.unusedVariables false
set_option linter.unusedSimpArgs false
theorem slotsOld_contract (H : Type) (enc : TypeId × Value → H) (W : World) (base : Nat) (args : Array Value) (ds gs : List (DataW H)) (before : List MemPlace)
    (hval : ∀ (j : Nat) t v, Try.f5.params[j]? = some t → args[j]? = some v → Value.okWide Try.prog W .any base t v)
    (hW : DataW.Whole enc Try.prog Try.f5.params.toList Rows.slotsOldSpec.vars false W args.toList ds gs before) :
    Calls Try.prog 5 args W fun e W' => ∃ v, e = .returned v ∧ Rows.slotsOldSpec.post enc Try.prog Try.f5 false true false false W args v W' := by
  have hW' := hW
  obtain ⟨p, q, hA, hV, rfl, hfz, hnd⟩ := hW
  rw [Try.params5] at hA hval
  obtain ⟨v0, vs0, d0, ds0, p0, q0, hargs, rfl, rfl, h0, r0⟩ := trodAll_cons hA
  obtain ⟨v1, vs1, d1, ds1, p1, q1, rfl, rfl, rfl, h1, r1⟩ := trodAll_cons r0
  obtain ⟨v2, vs2, d2, ds2, p2, q2, rfl, rfl, rfl, h2, r2⟩ := trodAll_cons r1
  obtain ⟨rfl, rfl, rfl⟩ := trodAll_nil r2
  obtain rfl : args = #[v0, v1, v2] := by cases args; simp_all
  obtain ⟨cs0, rfl, _⟩ := okWide_struct Try.underlying25 (hval 0 25 v0 rfl rfl)
  obtain ⟨m0, h0⟩ := h0
  obtain ⟨x0_0, x0_1, x0_2, x0_3, x0_4, x0_5, x0_6, x0_7, x0_8, z0, y0_0, y0_1, y0_2, y0_3, y0_4, y0_5⟩ := open_25 h0
  obtain rfl : cs0 = [Value.slice x0_0 x0_2.length x0_1, Value.slice x0_3 x0_5.length x0_4, Value.slice x0_6 x0_8.length x0_7].toArray := by rw [← z0]; simp [Value.cells]
  obtain ⟨cs1, rfl, _⟩ := okWide_struct Try.underlying27 (hval 1 27 v1 rfl rfl)
  obtain ⟨m1, h1⟩ := h1
  obtain ⟨x1_0, x1_1, z1, y1_0, y1_1⟩ := open_27 h1
  obtain rfl : cs1 = [Value.int .i64 x1_0, Value.int .i64 x1_1].toArray := by rw [← z1]; simp [Value.cells]
  obtain ⟨x2, rfl, _, _, w2⟩ := open_int Try.underlying3 (hval 2 3 v2 rfl rfl) h2
  have hwalk := lSlotsOld_ok W (s := (x0_2, x0_5, x0_8)) (h := (x1_0, x1_1)) (keep := x2) y0_1 (y0_0) y0_3 (y0_2) y0_5 (y0_4)
  rw [show (lSlotsOld (x0_2, x0_5, x0_8) (x1_0, x1_1) x2) = true from (lSlotsOld_true _ _ _)] at hwalk
  refine hwalk.mono fun e W' ⟨he, hE⟩ => ⟨_, he, ?_⟩
  exact law_post laidOut (by kernel_rfl) rfl Try.underlying4 rfl (fun ds hds => by
    match ds, hds with
    | [a0, a1, a2], _ => exact ⟨rfl, rfl, rfl⟩) hW' hE

set_option maxRecDepth 100000 in
theorem slotsOld_lifted (os : Os) (started : os.Started) (H : Type) (enc : TypeId × Value → H) :
    ReturnsInHanded Rows.slotsOldRow.assume Try.checked os 5 .any (OpenClaim.pre enc Try.prog Try.f5 (OpenSpec.ofChange Rows.slotsOldSpec) Rows.slotsOldRow) (Rows.slotsOldSpec.post enc Try.prog Try.f5 false true false false) := by
  refine returnsInHanded_of_change (C := Try.checked) (s := Rows.slotsOldSpec) own' started (by kernel_rfl) Try.func5
    (ChangeSpec.witness6 (enc := enc) (C := Try.checked) (s := Rows.slotsOldSpec) false ⟨#[], #[.agg #[.slice none 0 0, .slice none 0 0, .slice none 0 0], .agg #[.int .i64 0, .int .i64 0], .int .i64 0], []⟩ 8 (by kernel_rfl) (by kernel_rfl) (by kernel_rfl) (by kernel_rfl) (by kernel_rfl)) ?_
  intro W base args ds gs before hval hW _ _
  exact slotsOld_contract H enc W base args ds gs before hval hW

/-- 'slotsOld': proved. -/
theorem slotsOld_proved : Rows.SlotsOldSaid :=
  OpenClaim.holds_of_wide 5 Try.f5 rfl rfl rfl rfl rfl rfl rfl ⟨rfl, rfl, rfl, rfl, rfl⟩ rfl rfl rfl rfl rfl (by kernel_rfl) Try.func5 (by kernel_rfl)
    (of_decide_eq_true (by kernel_rfl)) (by unfold Func.isWrapper; first | (rw [if_pos (by decide +kernel)]; kernel_rfl) | (rw [if_neg (by decide +kernel)]; exact ⟨rfl, rfl⟩))
    (fun os started H enc _ => slotsOld_lifted os started H enc)

end Go.Proofs.Ytofkflecgnmemaa
