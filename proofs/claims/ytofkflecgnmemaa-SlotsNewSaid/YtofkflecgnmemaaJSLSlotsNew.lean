/- The law 'SlotsNew' is proved here. Its conditions: none. -/
import Derived.Test.YtofkflecgnmemaaRows
import Derived.Test.YtofkflecgnmemaaJSL
import Derived.Test.YtofkflecgnmemaaJSF
import Derived.Test.YtofkflecgnmemaaJSI
import Derived.Test.YtofkflecgnmemaaJSR
import Derived.Test.YtofkflecgnmemaaJST
namespace Go.Proofs.Ytofkflecgnmemaa
open Go.Proofs Go.Proofs.Ytofkflecgnmemaa.Jd
open Go.ChangeShapes Go.WideShapes Go.ChangeAt Go.RowKit Go.ChangeMaps
set_option linter.unusedVariables false
set_option linter.unusedSimpArgs false
theorem slotsNew_contract (H : Type) (enc : TypeId × Value → H) (W : World) (base : Nat) (args : Array Value) (ds gs : List (DataW H)) (before : List MemPlace)
    (hval : ∀ (j : Nat) t v, Try.f7.params[j]? = some t → args[j]? = some v → Value.okWide Try.prog W .any base t v)
    (hW : DataW.Whole enc Try.prog Try.f7.params.toList Rows.slotsNewSpec.vars false W args.toList ds gs before) :
    Calls Try.prog 7 args W fun e W' => ∃ v, e = .returned v ∧ Rows.slotsNewSpec.post enc Try.prog Try.f7 false true false false W args v W' := by
  have hW' := hW
  obtain ⟨p, q, hA, hV, rfl, hfz, hnd⟩ := hW
  rw [Try.params7] at hA hval
  obtain ⟨v0, vs0, d0, ds0, p0, q0, hargs, rfl, rfl, h0, r0⟩ := trodAll_cons hA
  obtain ⟨rfl, rfl, rfl⟩ := trodAll_nil r0
  obtain rfl : args = #[v0] := by cases args; simp_all
  obtain ⟨x0, rfl, _, _, w0⟩ := open_int Try.underlying3 (hval 0 3 v0 rfl rfl) h0
  have hwalk := lSlotsNew_ok W (n_ := x0)
  rw [show (lSlotsNew x0) = true from (lSlotsNew_true _)] at hwalk
  refine hwalk.mono fun e W' ⟨he, hE⟩ => ⟨_, he, ?_⟩
  exact law_post laidOut (by kernel_rfl) rfl Try.underlying4 rfl (fun ds hds => by
    match ds, hds with
    | [a0], _ => exact ⟨rfl, rfl, rfl⟩) hW' hE

set_option maxRecDepth 100000 in
theorem slotsNew_lifted (os : Os) (started : os.Started) (H : Type) (enc : TypeId × Value → H) :
    ReturnsInHanded Rows.slotsNewRow.assume Try.checked os 7 .any (OpenClaim.pre enc Try.prog Try.f7 (OpenSpec.ofChange Rows.slotsNewSpec) Rows.slotsNewRow) (Rows.slotsNewSpec.post enc Try.prog Try.f7 false true false false) := by
  refine returnsInHanded_of_change (C := Try.checked) (s := Rows.slotsNewSpec) own' started (by kernel_rfl) Try.func7
    (ChangeSpec.witness6 (enc := enc) (C := Try.checked) (s := Rows.slotsNewSpec) false ⟨#[], #[.int .i64 0], []⟩ 8 (by kernel_rfl) (by kernel_rfl) (by kernel_rfl) (by kernel_rfl) (by kernel_rfl)) ?_
  intro W base args ds gs before hval hW _ _
  exact slotsNew_contract H enc W base args ds gs before hval hW

/-- 'slotsNew': proved. -/
theorem slotsNew_proved : Rows.SlotsNewSaid :=
  OpenClaim.holds_of_wide 7 Try.f7 rfl rfl rfl rfl rfl rfl rfl ⟨rfl, rfl, rfl, rfl, rfl⟩ rfl rfl rfl rfl rfl (by kernel_rfl) Try.func7 (by kernel_rfl)
    (of_decide_eq_true (by kernel_rfl)) (by unfold Func.isWrapper; first | (rw [if_pos (by decide +kernel)]; kernel_rfl) | (rw [if_neg (by decide +kernel)]; exact ⟨rfl, rfl⟩))
    (fun os started H enc _ => slotsNew_lifted os started H enc)

end Go.Proofs.Ytofkflecgnmemaa
