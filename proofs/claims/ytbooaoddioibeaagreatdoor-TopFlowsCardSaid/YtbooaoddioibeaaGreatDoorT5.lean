/- What is laid is met in that world. No condition. -/
import Derived.Test.YtbooaoddioibeaaGreatDoorT4
import Derived.Test.YtbooaoddioibeaaGreatDoorS1
namespace Go.Proofs.YtbooaoddioibeaaGreatDoor
open Go
set_option maxRecDepth 100000
set_option linter.unusedVariables false
set_option linter.unusedSimpArgs false
theorem layVars_of {P : Program} {w : World} {l : List (String × DataW Unit)} {n : Nat} {y : List (Nat × List Value) × List Obj} (hs : w.heap.size = n) (h : Lay.layList P n l = some y) :
    w.layVars P l = { w with heap := ⟨Lay.setRows w.heap.toList y.1 ++ y.2⟩ } := by subst hs; unfold World.layVars; rw [h]
theorem layFits_of {P : Program} {w : World} {l : List (String × DataW Unit)} {n : Nat} {y : List (Nat × List Value) × List Obj} (hs : w.heap.size = n) (h : Lay.layList P n l = some y)
    (k : (y.1.map (·.1)).Nodup) (k2 : (y.1.all fun r => Lay.isRow w.heap.toList[r.1]?) = true) : w.layFits P l [] = true := by
  subst hs; unfold World.layFits; rw [h]; simp only [Bool.and_eq_true, decide_eq_true_eq]
  refine ⟨⟨k, ?_⟩, by simp⟩
  rw [List.all_eq_true] at k2 ⊢
  intro r hr
  rw [k2 r hr]; simp
theorem layIfaces_of {P : Program} {w w' : World} {l : List (String × DataW Unit)} {n : Nat} {y : List (Nat × List Value) × List Obj} (hs : w.heap.size = n) (h : Lay.layList P n l = some y)
    (k : (y.1.all fun r => r.2.all (Lay.okV P w')) = true) (k2 : y.2.all (Lay.okO P w') = true) : w.layIfaces P l w' = true := by
  subst hs; unfold World.layIfaces; rw [h]; simp only [Bool.and_eq_true]; exact ⟨k, k2⟩
theorem lay_eq : Lay.layList Tryz.prog 33 laidD = some (lz0, lw0) := by rw [lr_ok]; exact ll0
theorem lw_eq (os : Os) : (laidW0 os).layVars Tryz.prog laidD = laidL os := layVars_of (lsz os) lay_eq
theorem lnod : ((lz0, lw0).1.map (·.1)).Nodup := of_decide_eq_true (by kernel_rfl)
theorem lrow (os : Os) : ((lz0, lw0).1.all fun r => Lay.isRow (laidW0 os).heap.toList[r.1]?) = true := by kernel_rfl
theorem lfit (os : Os) : (laidW0 os).layFits Tryz.prog laidD [] = true := layFits_of (lsz os) lay_eq lnod (lrow os)
theorem lokV (os : Os) : ((lz0, lw0).1.all fun r => r.2.all (Lay.okV Tryz.prog (laidL os))) = true := by kernel_rfl
theorem lokO (os : Os) : (lz0, lw0).2.all (Lay.okO Tryz.prog (laidL os)) = true := by kernel_rfl
theorem lifc (os : Os) : (laidW0 os).layIfaces Tryz.prog laidD ((laidW0 os).layVars Tryz.prog laidD) = true := by rw [lw_eq]; exact layIfaces_of (lsz os) lay_eq (lokV os) (lokO os)
theorem lmet0 (os : Os) : laidMet Tryz.prog laidD (((laidW0 os).layVars Tryz.prog laidD).forCall (fun _ _ => 0) ⟨#[], #[.string ⟨#[]⟩, .string ⟨#[]⟩, .int .i64 0], []⟩).memory := Jd.A2 (laidW0 os) _ (lfit os) (lifc os)
theorem lmet (os : Os) : laidMet Tryz.prog laidD ((laidL os).forCall (fun _ _ => 0) ⟨#[], #[.string ⟨#[]⟩, .string ⟨#[]⟩, .int .i64 0], []⟩).memory := by have h := lmet0 os; rw [lw_eq] at h; exact h
theorem lfil : (Rows.topFlowsRow.laid.filter fun x => x.2.handleName?.isNone) = laidD := by kernel_rfl
theorem lmetH (os : Os) : laidMetH Tryz.prog Rows.topFlowsRow.laid ((laidL os).forCall (fun _ _ => 0) ⟨#[], #[.string ⟨#[]⟩, .string ⟨#[]⟩, .int .i64 0], []⟩).memory := laidMetH_of_parts (by rw [lfil]; exact lmet os) (lhan os)
end Go.Proofs.YtbooaoddioibeaaGreatDoor
