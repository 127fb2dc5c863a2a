/- Part of the proofs of this seat: walks and plain facts. No condition. -/
import Derived.Test.YtofkflecgnmemaaJM2
namespace Go.Proofs.Ytofkflecgnmemaa.Jd
open Go.Proofs
open Go.RowKit (Below)
set_option maxRecDepth 100000
set_option linter.unusedVariables false
set_option linter.unusedSimpArgs false
def eqI_l0 (s1 : List Int) (s2 : List Int) : Nat → Nat → Except Bool Nat
  | 0, x_1 => .ok (x_1)
  | n_2 + 1, x_1 => (if ((x_1 : Nat) : Int) < ((s1.length : Nat) : Int) then (if (s1.getD x_1 default) ≠ (s2.getD x_1 default) then .error false else (eqI_l0 s1 s2 n_2 (x_1 + 1))) else .ok (x_1))
def eqI (s1 : List Int) (s2 : List Int) : Bool := (if ((s1.length : Nat) : Int) ≠ ((s2.length : Nat) : Int) then false else (outc1 (eqI_l0 s1 s2 (s1.length + 1) 0) (fun r => r) (fun x_1 => true)))
def eqB_l0 (s1 : List Bool) (s2 : List Bool) : Nat → Nat → Except Bool Nat
  | 0, x_1 => .ok (x_1)
  | n_2 + 1, x_1 => (if ((x_1 : Nat) : Int) < ((s1.length : Nat) : Int) then (if (!((s1.getD x_1 default) == (s2.getD x_1 default))) = true then .error false else (eqB_l0 s1 s2 n_2 (x_1 + 1))) else .ok (x_1))
def eqB (s1 : List Bool) (s2 : List Bool) : Bool := (if ((s1.length : Nat) : Int) ≠ ((s2.length : Nat) : Int) then false else (outc1 (eqB_l0 s1 s2 (s1.length + 1) 0) (fun r => r) (fun x_1 => true)))
def aSame (a : (List Int × List Bool × List Int)) (b : (List Int × List Bool × List Int)) : Bool := (if (eqI a.1 b.1) = true then (if (eqB a.2.1 b.2.1) = true then (eqI a.2.2 b.2.2) else false) else false)
def rRight_l2 (s : (List Int × List Bool × List Int)) (free_1 : Nat) (i_2 : Nat) (i_8 : Nat) : Nat → Nat → Except Bool Nat
  | 0, k_13 => .ok (k_13)
  | n_14 + 1, k_13 => (if ((k_13 : Nat) : Int) < ((i_8 : Nat) : Int) then (if (s.2.2.getD k_13 default) = (s.2.2.getD i_8 default) then .error false else (rRight_l2 s free_1 i_2 i_8 n_14 (k_13 + 1))) else .ok (k_13))
def rRight_l1 (s : (List Int × List Bool × List Int)) (free_1 : Nat) (i_2 : Nat) : Nat → Nat → Except Bool Nat
  | 0, i_8 => .ok (i_8)
  | n_9 + 1, i_8 => (if ((i_8 : Nat) : Int) < ((s.2.2.length : Nat) : Int) then (if (s.2.2.getD i_8 default) < 0 then .error false else (if ((s.1.length : Nat) : Int) ≤ (s.2.2.getD i_8 default) then .error false else (if (s.2.1.getD (((s.2.2.getD i_8 default)).toNat) default) = true then .error false else (outc1 (rRight_l2 s free_1 i_2 i_8 (i_8 + 1) 0) (fun r => .error r) (fun k_13 => (rRight_l1 s free_1 i_2 n_9 (i_8 + 1))))))) else .ok (i_8))
def rRight_l0 (s : (List Int × List Bool × List Int)) : Nat → Nat → Nat → Except Bool (Nat × Nat)
  | 0, free_1, i_2 => .ok (free_1, i_2)
  | n_3 + 1, free_1, i_2 => (if ((i_2 : Nat) : Int) < ((s.1.length : Nat) : Int) then (if (s.1.getD i_2 default) < 0 then .error false else (if 1000000000 < (s.1.getD i_2 default) then .error false else (if (!(s.2.1.getD i_2 default)) = true then (rRight_l0 s n_3 (free_1 + 1) (i_2 + 1)) else (rRight_l0 s n_3 free_1 (i_2 + 1))))) else .ok (free_1, i_2))
def rRight (s : (List Int × List Bool × List Int)) : Bool := (if ((s.1.length : Nat) : Int) < 1 then false else (if 64 < ((s.1.length : Nat) : Int) then false else (if ((s.2.1.length : Nat) : Int) ≠ ((s.1.length : Nat) : Int) then false else (outc2 (rRight_l0 s (s.1.length + 1) 0 0) (fun r => r) (fun free_1 i_2 => (outc1 (rRight_l1 s free_1 i_2 (s.2.2.length + 1) 0) (fun r => r) (fun i_8 => decide (((s.2.2.length : Nat) : Int) = ((free_1 : Nat) : Int)))))))))
def rInts_l0 (a : List Int) (b : List Int) : Nat → Nat → Except Bool Nat
  | 0, i_1 => .ok (i_1)
  | n_2 + 1, i_1 => (if ((i_1 : Nat) : Int) < ((a.length : Nat) : Int) then (if (a.getD i_1 default) ≠ (b.getD i_1 default) then .error false else (rInts_l0 a b n_2 (i_1 + 1))) else .ok (i_1))
def rInts (a : List Int) (b : List Int) : Bool := (if ((a.length : Nat) : Int) ≠ ((b.length : Nat) : Int) then false else (outc1 (rInts_l0 a b (a.length + 1) 0) (fun r => r) (fun i_1 => true)))
def rSame_l0 (a : (List Int × List Bool × List Int)) (b : (List Int × List Bool × List Int)) : Nat → Nat → Except Bool Nat
  | 0, i_1 => .ok (i_1)
  | n_2 + 1, i_1 => (if ((i_1 : Nat) : Int) < ((a.2.1.length : Nat) : Int) then (if (!((a.2.1.getD i_1 default) == (b.2.1.getD i_1 default))) = true then .error false else (rSame_l0 a b n_2 (i_1 + 1))) else .ok (i_1))
def rSame (a : (List Int × List Bool × List Int)) (b : (List Int × List Bool × List Int)) : Bool := (if (!(rInts a.1 b.1)) = true then false else (if (!(rInts a.2.2 b.2.2)) = true then false else (if ((a.2.1.length : Nat) : Int) ≠ ((b.2.1.length : Nat) : Int) then false else (outc1 (rSame_l0 a b (a.2.1.length + 1) 0) (fun r => r) (fun i_1 => true)))))
def rHandles_l0 (a : List (Int × Int)) (b : List (Int × Int)) : Nat → Nat → Except Bool Nat
  | 0, i_1 => .ok (i_1)
  | n_2 + 1, i_1 => (if ((i_1 : Nat) : Int) < ((a.length : Nat) : Int) then (if ¬ (((a.getD i_1 default).1) = ((b.getD i_1 default).1) ∧ ((a.getD i_1 default).2) = ((b.getD i_1 default).2)) then .error false else (rHandles_l0 a b n_2 (i_1 + 1))) else .ok (i_1))
def rHandles (a : List (Int × Int)) (b : List (Int × Int)) : Bool := (if ((a.length : Nat) : Int) ≠ ((b.length : Nat) : Int) then false else (outc1 (rHandles_l0 a b (a.length + 1) 0) (fun r => r) (fun i_1 => true)))
end Go.Proofs.Ytofkflecgnmemaa.Jd
