/- Part of the proofs of this seat: walks and plain facts. No condition. -/
import Derived.Test.YtopjaeoklkpcpaaGreatDoorP0
import Derived.Test.YtopjaeoklkpcpaaGreatDoorProg
import Derived.Test.YtopjaeoklkpcpaaGreatDoorP5
import Derived.Test.YtopjaeoklkpcpaaGreatDoorP1
import Derived.Test.YtopjaeoklkpcpaaGreatDoorP2
import Derived.Test.YtopjaeoklkpcpaaGreatDoorP4
namespace Go.Proofs.YtopjaeoklkpcpaaGreatDoor.Jd
open Go.Proofs
open Go.RowKit (Below)
set_option maxRecDepth 100000
set_option maxHeartbeats 8000000
set_option linter.unusedVariables false
set_option linter.unusedSimpArgs false
theorem EQH_30 (a0 b0 : Int) (a1 b1 : Int) (n : Nat) (w : World) : (Op.equalIn (n + 2) 30 (Value.agg [vi a0, vi a1].toArray) (Value.agg [vi b0, vi b1].toArray)).run Tryz.prog w = .ok (decide (a0 = b0 ∧ a1 = b1)) w := by
 rw [show n + 2 = (n + 1) + 1 from rfl]
 unfold Op.equalIn
 simp [part, run_eqI (P := Tryz.prog) (t := 3) n .i64 _ _ Tryz.runUnderlying3]
 by_cases h0 : a0 = b0 <;> by_cases h1 : a1 = b1 <;> simp_all
theorem EQH_32 (a0 b0 : Int) (a1 b1 : Int) (n : Nat) (w : World) : (Op.equalIn (n + 2) 32 (Value.agg [vi a0, vi a1].toArray) (Value.agg [vi b0, vi b1].toArray)).run Tryz.prog w = .ok (decide (a0 = b0 ∧ a1 = b1)) w := by
 rw [show n + 2 = (n + 1) + 1 from rfl]
 unfold Op.equalIn
 simp [part, run_eqI (P := Tryz.prog) (t := 3) n .i64 _ _ Tryz.runUnderlying3]
 by_cases h0 : a0 = b0 <;> by_cases h1 : a1 = b1 <;> simp_all
theorem EQH_34 (a0 b0 : Bool) (a1 b1 : Int) (a2 b2 : Int) (a3 b3 : Int) (a4 b4 : Int) (n : Nat) (w : World) : (Op.equalIn (n + 3) 34 (Value.agg [Value.bool a0, vi a1, vi a2, vi a3, vi a4].toArray) (Value.agg [Value.bool b0, vi b1, vi b2, vi b3, vi b4].toArray)).run Tryz.prog w = .ok (decide (a0 = b0 ∧ a1 = b1 ∧ a2 = b2 ∧ a3 = b3 ∧ a4 = b4)) w := by
 have hs0 := EQH_30 a1 b1 a2 b2 n w
 have hs1 := EQH_32 a3 b3 a4 b4 n w
 rw [show n + 3 = (n + 2) + 1 from rfl]
 unfold Op.equalIn
 simp [part, run_eqB (P := Tryz.prog) (t := 4) (n + 1) _ _ Tryz.runUnderlying4, hs0, hs1] at *
 by_cases h0 : a0 = b0 <;> by_cases h1 : a1 = b1 <;> by_cases h2 : a2 = b2 <;> by_cases h3 : a3 = b3 <;> by_cases h4 : a4 = b4 <;> simp_all
theorem NE_34 (x y : Operand) (a0 b0 : Bool) (a1 b1 : Int) (a2 b2 : Int) (a3 b3 : Int) (a4 b4 : Int) (w : World) : (do eqGuard .neq 34 x y (Value.agg [Value.bool a0, vi a1, vi a2, vi a3, vi a4].toArray) (Value.agg [Value.bool b0, vi b1, vi b2, vi b3, vi b4].toArray); binOp .neq 34 (Value.agg [Value.bool a0, vi a1, vi a2, vi a3, vi a4].toArray) (Value.agg [Value.bool b0, vi b1, vi b2, vi b3, vi b4].toArray) : Sem Value).run Tryz.prog w = .ok (.bool (decide (¬ (a0 = b0 ∧ a1 = b1 ∧ a2 = b2 ∧ a3 = b3 ∧ a4 = b4)))) w := by
 have h2 : (binOp .neq 34 (Value.agg [Value.bool a0, vi a1, vi a2, vi a3, vi a4].toArray) (Value.agg [Value.bool b0, vi b1, vi b2, vi b3, vi b4].toArray)).run Tryz.prog w = .ok (.bool (decide (¬ (a0 = b0 ∧ a1 = b1 ∧ a2 = b2 ∧ a3 = b3 ∧ a4 = b4)))) w := by
  show (do pure (.bool (!(← Op.equal 34 _ _))) : Sem Value).run Tryz.prog w = _
  simp only [Sem.run_bind, Op.equal, Op.maxDepth, EQH_34 a0 b0 a1 b1 a2 b2 a3 b3 a4 b4 9997, Result.andThen_ok, Sem.run_pure]
  congr 2
  simp
 simp [eqGuard]
 simpa using h2
end Go.Proofs.YtopjaeoklkpcpaaGreatDoor.Jd

namespace Go.Proofs.YtopjaeoklkpcpaaGreatDoor.Jd.SlT
open Go.Proofs
open Go.RowKit (Below)
set_option maxRecDepth 100000
set_option linter.unusedVariables false
set_option linter.unusedSimpArgs false

theorem getD_ext {α : Type} [Inhabited α] {a b : List α} (h : a.length = b.length) (h2 : ∀ j, j < a.length → a.getD j default = b.getD j default) : a = b := by
  refine List.ext_getElem h fun j h3 h4 => ?_
  have := h2 j h3
  rwa [getD_lt h3, getD_lt h4] at this
theorem cmp_spec {α : Type} [Inhabited α] (a b : List α) (l : Nat → Nat → Except Bool Nat) (h0 : ∀ n k, a.length ≤ k → l (n + 1) k = .ok k) (h1 : ∀ n k, k < a.length → a.getD k default = b.getD k default → l (n + 1) k = l n (k + 1)) (h2 : ∀ n k, k < a.length → a.getD k default ≠ b.getD k default → l (n + 1) k = .error false) (hl : a.length = b.length) :
    ∀ n k, a.length - k < n → k ≤ a.length → (l n k = .ok a.length ∧ ∀ j, k ≤ j → j < a.length → a.getD j default = b.getD j default) ∨ (l n k = .error false ∧ a ≠ b)
  | 0, k, h, _ => by omega
  | n + 1, k, h, hk => by
    by_cases c1 : k < a.length
    · by_cases c2 : a.getD k default = b.getD k default
      · rw [h1 n k c1 c2]
        rcases cmp_spec a b l h0 h1 h2 hl n (k + 1) (by omega) (by omega) with ⟨e, g⟩ | ⟨e, g⟩
        · refine .inl ⟨e, fun j hj hj2 => ?_⟩
          by_cases hjk : j = k
          · subst hjk; exact c2
          · exact g j (by omega) hj2
        · exact .inr ⟨e, g⟩
      · exact .inr ⟨h2 n k c1 c2, fun e => c2 (by rw [e])⟩
    · obtain rfl : k = a.length := by omega
      exact .inl ⟨h0 n _ (Nat.le_refl _), fun j hj hj2 => by omega⟩
end Go.Proofs.YtopjaeoklkpcpaaGreatDoor.Jd.SlT

