/- The type of the sentinels is the one of its name. No condition. -/
import Derived.Test.YtbooaoddioibeaaGreatDoorRows
import Derived.LaidLaws
namespace Go.Proofs.YtbooaoddioibeaaGreatDoor
open Go
set_option maxRecDepth 100000
theorem all_range {p : Nat → Bool} {k n m k2 N : Nat} (hk : k + n = k2) (hN : n + m = N) (ha : (List.range' k n).all p = true) (hb : (List.range' k2 m).all p = true) : (List.range' k N).all p = true := by
  subst hk; subst hN
  rw [← List.range'_append_1, List.all_append, ha, hb]; rfl
theorem er_star : "*" ++ "errors.errorString" = "*errors.errorString" := by decide
noncomputable def eap : Nat → Bool := (fun u => Tryz.prog.typeName? 3 u != some "*errors.errorString" || u == 728)
theorem ea0 : (List.range' 0 140).all eap = true := by kernel_rfl
theorem ea1 : (List.range' 140 140).all eap = true := by kernel_rfl
theorem ea2 : (List.range' 280 140).all eap = true := by kernel_rfl
theorem ea3 : (List.range' 420 140).all eap = true := by kernel_rfl
theorem ea4 : (List.range' 560 140).all eap = true := by kernel_rfl
theorem ea5 : (List.range' 700 135).all eap = true := by kernel_rfl
theorem ea : ((List.range Tryz.prog.types.size).all eap) = true := by
  rw [show Tryz.prog.types.size = 835 by kernel_rfl, List.range_eq_range']
  exact (all_range (k := 0) (n := 140) (m := 695) (k2 := 140) (N := 835) (by decide) (by decide) ea0 (all_range (k := 140) (n := 140) (m := 555) (k2 := 280) (N := 695) (by decide) (by decide) ea1 (all_range (k := 280) (n := 140) (m := 415) (k2 := 420) (N := 555) (by decide) (by decide) ea2 (all_range (k := 420) (n := 140) (m := 275) (k2 := 560) (N := 415) (by decide) (by decide) ea3 (all_range (k := 560) (n := 140) (m := 135) (k2 := 700) (N := 275) (by decide) (by decide) ea4 ea5)))))
noncomputable def ebp : Nat → Bool := (fun e => Tryz.prog.typeName? 2 e != some "errors.errorString" || (match (Tryz.prog.info? e).map (·.desc) with | some (TypeDesc.named _ _) => true | _ => false))
theorem eb0 : (List.range' 0 140).all ebp = true := by kernel_rfl
theorem eb1 : (List.range' 140 140).all ebp = true := by kernel_rfl
theorem eb2 : (List.range' 280 140).all ebp = true := by kernel_rfl
theorem eb3 : (List.range' 420 140).all ebp = true := by kernel_rfl
theorem eb4 : (List.range' 560 140).all ebp = true := by kernel_rfl
theorem eb5 : (List.range' 700 135).all ebp = true := by kernel_rfl
theorem eb : ((List.range Tryz.prog.types.size).all ebp) = true := by
  rw [show Tryz.prog.types.size = 835 by kernel_rfl, List.range_eq_range']
  exact (all_range (k := 0) (n := 140) (m := 695) (k2 := 140) (N := 835) (by decide) (by decide) eb0 (all_range (k := 140) (n := 140) (m := 555) (k2 := 280) (N := 695) (by decide) (by decide) eb1 (all_range (k := 280) (n := 140) (m := 415) (k2 := 420) (N := 555) (by decide) (by decide) eb2 (all_range (k := 420) (n := 140) (m := 275) (k2 := 560) (N := 415) (by decide) (by decide) eb3 (all_range (k := 560) (n := 140) (m := 135) (k2 := 700) (N := 275) (by decide) (by decide) eb4 eb5)))))
theorem er_row (u : TypeId) (h : Tryz.prog.typeName? 3 u = some "*errors.errorString") : u = 728 :=
  typeName_ptr_named (nm := "errors.errorString") (by rw [er_star]; exact ea) eb (by decide) u (by rw [er_star]; exact h)
end Go.Proofs.YtbooaoddioibeaaGreatDoor
