/- The plain laws of slots: SlotsTells, SlotsTurns. No condition. -/
import Derived.Test.YtofkflecgnmemaaJSE
import Derived.Test.YtofkflecgnmemaaJSQ
namespace Go.Proofs.Ytofkflecgnmemaa.Jd
set_option linter.unusedSimpArgs false
set_option linter.unusedVariables false
theorem same_self (a : List Int × List Bool × List Int) : rSame a a = true := (rSame_iff a a).2 rfl
theorem handles_self (a : List (Int × Int)) : rHandles a a = true := (rHandles_iff a a).2 rfl
theorem aSame_eq (a b : List Int × List Bool × List Int) : aSame a b = rSame a b := by
  rw [Bool.eq_iff_iff, aSame_iff, rSame_iff]
theorem lSlotsTells_true (s t : List Int × List Bool × List Int) (n : Int) (h : Int × Int) : lSlotsTells s t n h = true := by
  unfold lSlotsTells
  simp only [rNew_eq, rRight_eq, rValid_eq, rAll_eq, aSame_eq, same_self, handles_self, beq_self_eq_true, if_true]
theorem lSlotsTurns_true (s : List Int × List Bool × List Int) (h : Int × Int) : lSlotsTurns s h = true := by
  unfold lSlotsTurns
  simp only [rTake_eq, rGive_eq, same_self, if_true, and_self, decide_true]
end Go.Proofs.Ytofkflecgnmemaa.Jd
