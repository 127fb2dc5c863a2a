/- The law 'SlotsKeeps' of slots is proved here. Its conditions: none. -/
import Derived.Test.YtofkflecgnmemaaRows
import Derived.Test.YtofkflecgnmemaaLawsA
import Derived.Test.YtofkflecgnmemaaWalkB
namespace Go.Proofs.Ytofkflecgnmemaa
open Go.Proofs Go.Proofs.Ytofkflecgnmemaa.Jd
open Go.ChangeShapes Go.WideShapes Go.ChangeAt Go.RowKit
set_option linter.unusedVariables false
theorem slotsKeeps_contract (H : Type) (enc : TypeId × Value → H) (W : World) (base : Nat) (args : Array Value) (ds gs : List (DataW H)) (before : List MemPlace)
    (hval : ∀ (j : Nat) t v, Try.f4.params[j]? = some t → args[j]? = some v → Value.okWide Try.prog W .any base t v)
    (hW : DataW.Whole enc Try.prog Try.f4.params.toList Rows.slotsKeepsSpec.vars false W args.toList ds gs before) :
    Calls Try.prog 4 args W fun e W' => ∃ v, e = .returned v ∧ Rows.slotsKeepsSpec.post enc Try.prog Try.f4 false true false false W args v W' := by
  have hW' := hW
  obtain ⟨p, q, hA, hV, rfl, hfz, hnd⟩ := hW
  rw [Try.params4] at hA hval
  obtain ⟨v0, vs0, d0, ds0, p0, q0, hargs, rfl, rfl, h0, r0⟩ := trodAll_cons hA
  obtain ⟨v1, vs1, d1, ds1, p1, q1, rfl, rfl, rfl, h1, r1⟩ := trodAll_cons r0
  obtain ⟨rfl, rfl, rfl⟩ := trodAll_nil r1
  obtain rfl : args = #[v0, v1] := by cases args; simp_all
  obtain ⟨ga0, ua0, fa0, gc0, uc0, fc0, gl0, ul0, fl0, rfl, s00, s10, s20, k00, k10, k20⟩ := open_slots (hval 0 25 v0 rfl rfl) h0
  obtain ⟨x1, y1, rfl⟩ := open_handle (hval 1 27 v1 rfl rfl) h1
  refine (SlotsKeeps_ok W s00 s10 s20 k00 k10 k20).mono fun e W' ⟨he, hE⟩ => ⟨_, he, ?_⟩
  exact law_post laidOut (by kernel_rfl) rfl Try.underlying4 rfl (fun ds hds => by
    match ds, hds with
    | [a0, a1], _ => exact ⟨rfl, rfl, rfl⟩) hW' hE

set_option maxRecDepth 100000 in
theorem slotsKeeps_lifted (os : Os) (started : os.Started) (H : Type) (enc : TypeId × Value → H) :
    ReturnsInHanded Rows.slotsKeepsRow.assume Try.checked os 4 .any (OpenClaim.pre enc Try.prog Try.f4 (OpenSpec.ofChange Rows.slotsKeepsSpec) Rows.slotsKeepsRow) (Rows.slotsKeepsSpec.post enc Try.prog Try.f4 false true false false) := by
  refine returnsInHanded_of_change (C := Try.checked) (s := Rows.slotsKeepsSpec) own' started (by kernel_rfl) Try.func4
    (ChangeSpec.witness6 (enc := enc) (C := Try.checked) (s := Rows.slotsKeepsSpec) false ⟨#[], #[.agg #[.slice none 0 0, .slice none 0 0, .slice none 0 0], .agg #[.int .i64 0, .int .i64 0]], []⟩ 8 (by kernel_rfl) (by kernel_rfl) (by kernel_rfl) (by kernel_rfl) (by kernel_rfl)) ?_
  intro W base args ds gs before hval hW _ _
  exact slotsKeeps_contract H enc W base args ds gs before hval hW

/-- 'slotsKeeps': proved. -/
theorem slotsKeeps_proved : Rows.SlotsKeepsSaid :=
  OpenClaim.holds_of_wide 4 Try.f4 rfl rfl rfl rfl rfl rfl rfl ⟨rfl, rfl, rfl, rfl, rfl⟩ rfl rfl rfl rfl rfl (by kernel_rfl) Try.func4 (by kernel_rfl)
    (of_decide_eq_true (by kernel_rfl)) (by unfold Func.isWrapper; first | (rw [if_pos (by decide +kernel)]; kernel_rfl) | (rw [if_neg (by decide +kernel)]; exact ⟨rfl, rfl⟩))
    (fun os started H enc _ => slotsKeeps_lifted os started H enc)
end Go.Proofs.Ytofkflecgnmemaa
